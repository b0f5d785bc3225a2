import PyProof.Rows.All
import Wide.All
import OpenK.AllK
import Wide.FinOn
import HandS.ForMost
import HandS.ForExc
import HandS.Deep
import HandS.TupLe
import HandS.SortOrd
import HandS.Flow
import HandS.Style
import HandS.Conv
import HandS.Lambda
import HandS.HeadHook3
import HandS.HeadEnd
import HandS.HeadWalk
import HandS.Head4
import HandS.HeadHook4
import HandS.ExcInit
import HandS.ExcSuper
import HandS.IsInst
import HandS.TryMany
import HandS.RaiseMore
import HandS.Small
import HandS.Wide
import HandS.WideMore
import HandS.DictComp
import HandS.Zip
import HandS.Walk
import HandS.TupAny
import KE.KDictKeyed
import KE.GoesDict
import KE.KDictWalk
import KE.KDictLaw
import KE.KRevSl
import KE.GoesEnum
import PyProof.StrLawsRepr
import HandS.TryOnly
import PyProof.ExcBaseAll.ValueError
import HandS.NestedK
import KE.SortData
import KE.KAsSuite
import KE.KDictPairs
import PySem.Challenge.RW_zoneways_k16_words_of_maps
set_option Elab.async false
set_option linter.all false
set_option maxHeartbeats 4000000
set_option maxRecDepth 100000
/-! Z1: values without a heap, the store, the relation to the abstract heap. -/
namespace Z
open PySem PySem.Spec PyProof.Rows L2

/-- a value: a tuple or a list that stands still is told by what it holds; what may change stands in the store -/
inductive D where
  | non | bl (b : Bool) | int (i : Int) | str (s : List Nat)
  | tup (ds : List D) | lst (ds : List D) | dct (ks zs : List D) | dcn (ks zs : List D)
  | ref (n : Nat) | arg (ns : List Int)

/-- a law's bag -/
structure Bag where
  a : Int
  b : Int
  c : Int
  l : List Int
/-- what stands in the store -/
inductive O where
  | lst (ds : List D) | dct (ks zs : List D) | dcn (ks zs : List D) | ins (c : Str) (fs : List (Str × D)) | bag (b : Bag) | tbl (q : Str)

/-- the store: the newest first -/
structure Sto where
  len : Nat
  objs : List O
def Sto.get (S : Sto) (n : Nat) : Option O := if n < S.len then S.objs[S.len - 1 - n]? else none
def Sto.push (S : Sto) (o : O) : Sto := ⟨S.len + 1, o :: S.objs⟩
def Sto.set (S : Sto) (n : Nat) (o : O) : Sto := if n < S.len then ⟨S.len, S.objs.set (S.len - 1 - n) o⟩ else S
def Sto.Wf (S : Sto) : Prop := S.objs.length = S.len
def Sto.nil : Sto := ⟨0, []⟩
theorem Sto.get_push_self {S : Sto} {o : O} : (S.push o).get S.len = some o := by
  unfold Sto.get Sto.push
  simp
theorem Sto.get_push_lt {S : Sto} {o : O} {n : Nat} (h : n < S.len) : (S.push o).get n = S.get n := by
  unfold Sto.get Sto.push
  have h1 : n < S.len + 1 := by omega
  rw [if_pos h1, if_pos h]
  have e : S.len + 1 - 1 - n = (S.len - 1 - n) + 1 := by omega
  show (o :: S.objs)[S.len + 1 - 1 - n]? = _
  rw [e, List.getElem?_cons_succ]
theorem Sto.get_set_self {S : Sto} {o : O} {n : Nat} (w : S.Wf) (h : n < S.len) : (S.set n o).get n = some o := by
  unfold Sto.set
  rw [if_pos h]
  unfold Sto.get
  show (if n < S.len then _ else _) = _
  rw [if_pos h]
  have w' : S.objs.length = S.len := w
  have : S.len - 1 - n < S.objs.length := by omega
  simp [this]
theorem Sto.get_set_ne {S : Sto} {o : O} {n m : Nat} (h : m ≠ n) : (S.set n o).get m = S.get m := by
  unfold Sto.set
  by_cases hn : n < S.len
  · rw [if_pos hn]
    unfold Sto.get
    show (if m < S.len then _ else _) = _
    by_cases hm : m < S.len
    · rw [if_pos hm, if_pos hm]
      show (S.objs.set (S.len - 1 - n) o)[S.len - 1 - m]? = _
      rw [List.getElem?_set_ne (by omega)]
    · rw [if_neg hm, if_neg hm]
  · rw [if_neg hn]
theorem Sto.set_len {S : Sto} {o : O} {n : Nat} : (S.set n o).len = S.len := by
  unfold Sto.set; split <;> rfl
theorem Sto.Wf.push {S : Sto} {o : O} (w : S.Wf) : (S.push o).Wf := by
  unfold Sto.Wf Sto.push at *
  simp [w]
theorem Sto.Wf.set {S : Sto} {o : O} {n : Nat} (w : S.Wf) : (S.set n o).Wf := by
  unfold Sto.set
  split
  · unfold Sto.Wf at *
    simp [w]
  · exact w
theorem Sto.Wf.get {S : Sto} (w : S.Wf) {n : Nat} (h : n < S.len) : ∃ o, S.get n = some o := by
  unfold Sto.Wf at w
  unfold Sto.get
  rw [if_pos h]
  have : S.len - 1 - n < S.objs.length := by omega
  exact ⟨_, List.getElem?_eq_getElem this⟩
theorem Sto.get_lt {S : Sto} {n : Nat} {o : O} (h : S.get n = some o) : n < S.len := by
  unfold Sto.get at h
  by_cases hn : n < S.len
  · exact hn
  · rw [if_neg hn] at h; cases h

/-- what is fixed through a law -/
structure Wd where
  P : Program
  w : World
  K : PySem.W.Frag
  mg : Str → Option Value
abbrev wd (X : Cx) : Wd := ⟨X.prog, X.w, X.K, X.mg⟩
/-- where the store's objects stand -/
structure Gh where
  n : Nat
  ι : Nat → Addr
  hid : Addr → Prop
def NS (G : Gh) (a : Addr) : Prop := (∀ i, i < G.n → G.ι i ≠ a) ∧ ¬ G.hid a
def KTup (K : PySem.W.Frag) (a : Addr) (xs : List V) : Prop := ∃ (o : Obj) (its : Array Value) (n : Nat), K.lookup a = some o ∧ o.cls = .type "tuple" ∧ o.data = .seq its n ∧ its.size ≤ sizeLine ∧ Vals xs its.toList ∧ o.dict = none
def KLst (K : PySem.W.Frag) (a : Addr) (xs : List V) : Prop := ∃ (o : Obj) (its : Array Value) (n : Nat), K.lookup a = some o ∧ o.cls = .type "list" ∧ o.dict = none ∧ o.data = .seq its n ∧ its.size ≤ sizeLine ∧ Vals xs its.toList
/-- a tuple that is known to have no dict -/
def PTup (H : Hp) (a : Addr) (vs : List V) : Prop := ∃ o : Obj, H a = some (.frz o (.tup vs)) ∧ o.dict = none
def TupAt (U : Wd) (G : Gh) (H : Hp) (a : Addr) (vs : List V) : Prop := (PTup H a vs ∧ NS G a) ∨ KTup U.K a vs
/-- any tuple -/
def WTupAt (U : Wd) (G : Gh) (H : Hp) (a : Addr) (vs : List V) : Prop := (Rd H a (.tup vs) ∧ NS G a) ∨ KTup U.K a vs
theorem PTup.rd {H : Hp} {a : Addr} {vs : List V} (h : PTup H a vs) : Rd H a (.tup vs) := let ⟨o, e, _⟩ := h; .inr ⟨o, e⟩
theorem TupAt.weak {U : Wd} {G : Gh} {H : Hp} {a : Addr} {vs : List V} (h : TupAt U G H a vs) : WTupAt U G H a vs := h.imp (fun h => ⟨h.1.rd, h.2⟩) id
def LstAt (U : Wd) (G : Gh) (H : Hp) (a : Addr) (vs : List V) : Prop := Rd H a (.lst vs) ∧ NS G a
/-- the script -/
def ArgAt (U : Wd) (G : Gh) (H : Hp) (a : Addr) (vs : List V) : Prop := (Rd H a (.lst vs) ∧ NS G a) ∨ KLst U.K a vs
theorem ArgAt.sq {U : Wd} {G : Gh} {H : Hp} {a : Addr} {vs : List V} (h : ArgAt U G H a vs) : SqL U.K H a vs := by
  rcases h with ⟨h, _⟩ | h
  · exact .inl h
  · exact .inr h
theorem WTupAt.sq {U : Wd} {G : Gh} {H : Hp} {a : Addr} {vs : List V} (h : WTupAt U G H a vs) : SqT U.K H a vs := by
  rcases h with ⟨h, _⟩ | ⟨o, its, n, h1, h2, h3, h4, h5, _⟩
  · exact .inl h
  · exact .inr ⟨o, its, n, h1, h2, h3, h4, h5⟩
theorem TupAt.sq {U : Wd} {G : Gh} {H : Hp} {a : Addr} {vs : List V} (h : TupAt U G H a vs) : SqT U.K H a vs := h.weak.sq
theorem LstAt.sq {U : Wd} {G : Gh} {H : Hp} {a : Addr} {vs : List V} (h : LstAt U G H a vs) : SqL U.K H a vs := .inl h.1
/-- keys that are whole numbers or texts -/
def keyOf : D → Option Key
  | .int i => some (.inl i)
  | .str s => some (.inr ⟨s.toArray⟩)
  | _ => none
/-- keys that are nested tuples -/
def nk : D → Option NestedKey
  | .non => some .none
  | .bl b => some (.num (if b = true then 1 else 0))
  | .int i => some (.num i)
  | .str s => some (.text ⟨s.toArray⟩)
  | .tup ds => (nks ds).map .tup
  | _ => none
where nks : List D → Option (List NestedKey)
  | [] => some []
  | d :: ds => match nk d, nks ds with
    | some k, some ks => some (k :: ks)
    | _, _ => none
abbrev Ent := NestedKey × Addr × V
/-- a dict whose keys are nested tuples, as an object -/
def nesHO (U : Wd) (a : Addr) (xs : List Ent) : HO := .ext fun h => (a == sysModules) = false ∧ xs.length ≤ sizeLine ∧ ∃ o des ep, h.get? a = some o ∧ o.ExactDict ∧ o.data = .dict des ep ∧
  Paired (fun (x : Ent) (e : DictEntry) => e.hash = x.1.hash U.w ∧ e.key = .ref x.2.1 ∧ RelV x.2.2 e.val) xs des.toList ∧ (xs.map (·.1)).Nodup
/-- a written dict of text keys -/
def KDic (U : Wd) (a : Addr) (kvs : List (Str × V)) : Prop := ∃ es n, KDict U.K U.w a es n ∧ Paired (fun (p : Str × V) (e : DictEntry) => (∃ t, e.key = .str p.1 t) ∧ RelV p.2 e.val) kvs es.toList

/-- a dict whose keys are whole numbers and texts -/
def DicAt (_ : Wd) (G : Gh) (H : Hp) (a : Addr) (kvs : List (Key × V)) : Prop := H a = some (.dK kvs) ∧ NS G a
def DcnAt (U : Wd) (G : Gh) (H : Hp) (a : Addr) (xs : List Ent) : Prop := H a = some (nesHO U a xs) ∧ NS G a
mutual
/-- the value v stands for d -/
def DV (U : Wd) (G : Gh) (H : Hp) : D → V → Prop
  | .non, v => v = .non
  | .bl b, v => v = .bl b
  | .int i, v => v = .int i
  | .str s, v => v = .str ⟨s.toArray⟩
  | .tup ds, v => ∃ a vs, v = .ref a ∧ TupAt U G H a vs ∧ DVs U G H ds vs
  | .lst ds, v => ∃ a vs, v = .ref a ∧ LstAt U G H a vs ∧ DVs U G H ds vs
  | .dct ks zs, v => ∃ a kvs, v = .ref a ∧ DicAt U G H a kvs ∧ ks.map keyOf = kvs.map (fun p => some p.1) ∧ DVs U G H zs (kvs.map (·.2))
  | .dcn ks zs, v => ∃ a xs, v = .ref a ∧ DcnAt U G H a xs ∧ ks.map nk = xs.map (fun x => some x.1) ∧ DVs U G H ks (xs.map (fun x => V.ref x.2.1)) ∧ DVs U G H zs (xs.map (·.2.2))
  | .ref n, v => n < G.n ∧ v = .ref (G.ι n)
  | .arg ns, v => ∃ a, v = .ref a ∧ ArgAt U G H a (ns.map .int)
def DVs (U : Wd) (G : Gh) (H : Hp) : List D → List V → Prop
  | [], vs => vs = []
  | d :: ds, vs => ∃ v r, vs = v :: r ∧ DV U G H d v ∧ DVs U G H ds r
end

/-- what stands in the store at a -/
def OV (U : Wd) (G : Gh) (H : Hp) : O → Addr → Prop
  | .lst ds, a => ∃ vs, H a = some (.lst vs) ∧ DVs U G H ds vs
  | .dct ks zs, a => ∃ kvs : List (Key × V), H a = some (.dK kvs) ∧ ks.map keyOf = kvs.map (fun p => some p.1) ∧ DVs U G H zs (kvs.map (·.2))
  | .dcn ks zs, a => ∃ xs : List Ent, H a = some (nesHO U a xs) ∧ ks.map nk = xs.map (fun x => some x.1) ∧ DVs U G H ks (xs.map (fun x => V.ref x.2.1)) ∧ DVs U G H zs (xs.map (·.2.2))
  | .bag b, a => ∃ c, H a = some (.lst [.int b.a, .int b.b, .int b.c, .ref c]) ∧ LstAt U G H c (b.l.map .int)
  | .ins c fs, a => ∃ C dx fvs, U.mg c = some (.ref C) ∧ H a = some (.ins C dx fvs) ∧ H dx = some (.own a) ∧ NS G dx ∧ fs.map (·.1) = fvs.map (·.1) ∧ DVs U G H (fs.map (·.2)) (fvs.map (·.2))
  | .tbl q, a => a = (He.cT U.K ("law", none)).2 ∧ ∃ ps : Array Value, H a = some (.tbl ps) ∧ TriplesOk ps.toList ∧ ∀ (pos : Pos) (cv : Value), codeAmong pos ps.toList = some cv → ∃ c, cv = .ref c ∧ H c = some (LamX.CodeO c q) ∧ NS G c

/-- from one state to a later one: all that is tracked and not of the store stays -/
structure Step (G : Gh) (H : Hp) (G' : Gh) (H' : Hp) : Prop where
  keep : ∀ a o, H a = some o → (NS G a ∨ G.hid a) → H' a = some o
  hid : ∀ a, G.hid a → G'.hid a
  hnew : ∀ a, G'.hid a → G.hid a ∨ H a = none
  le : G.n ≤ G'.n
  ι : ∀ i, i < G.n → G'.ι i = G.ι i
  new : ∀ i, G.n ≤ i → i < G'.n → H (G'.ι i) = none
  there : ∀ i, i < G.n → (∃ o, H (G.ι i) = some o) → ∃ o, H' (G.ι i) = some o
theorem Step.refl {G : Gh} {H : Hp} : Step G H G H := ⟨fun _ _ h _ => h, fun _ h => h, fun _ h => .inl h, Nat.le_refl _, fun _ _ => rfl, fun i h1 h2 => absurd h2 (Nat.not_lt.mpr h1), fun _ _ h => h⟩
theorem Step.ns {G G' : Gh} {H H' : Hp} (s : Step G H G' H') {a : Addr} {o : HO} (h : H a = some o) (n : NS G a) : NS G' a := by
  refine ⟨fun i hi e => ?_, fun z => (s.hnew a z).elim n.2 fun w => by rw [w] at h; cases h⟩
  by_cases hl : i < G.n
  · rw [s.ι i hl] at e; exact n.1 i hl e
  · have := s.new i (by omega) hi
    rw [e, h] at this; cases this
theorem Step.trans {G G1 G2 : Gh} {H H1 H2 : Hp} (a : Step G H G1 H1) (b : Step G1 H1 G2 H2) : Step G H G2 H2 where
  keep := fun p o h n => b.keep p o (a.keep p o h n) (n.elim (fun n => .inl (a.ns h n)) fun z => .inr (a.hid p z))
  hid := fun p z => b.hid p (a.hid p z)
  hnew := fun p z => by
    rcases b.hnew p z with z | z
    · exact a.hnew p z
    · cases e : H p with
      | none => exact .inr rfl
      | some o =>
        exfalso
        by_cases hn : NS G p ∨ G.hid p
        · rw [a.keep _ o e hn] at z; cases z
        · have : ∃ j, j < G.n ∧ G.ι j = p := by
            apply Classical.byContradiction
            intro y
            exact hn (Classical.byCases (fun w => .inr w) fun w => .inl ⟨fun j hj ej => y ⟨j, hj, ej⟩, w⟩)
          obtain ⟨j, hj, ej⟩ := this
          obtain ⟨o', ho'⟩ := a.there j hj ⟨o, by rw [ej]; exact e⟩
          rw [ej, z] at ho'; cases ho'
  le := Nat.le_trans a.le b.le
  ι := fun i hi => (b.ι i (Nat.lt_of_lt_of_le hi a.le)).trans (a.ι i hi)
  new := fun i h1 h2 => by
    by_cases hl : i < G1.n
    · rw [b.ι i hl]; exact a.new i h1 hl
    · have q := b.new i (by omega) h2
      cases e : H (G2.ι i) with
      | none => rfl
      | some o =>
        exfalso
        by_cases hn : NS G (G2.ι i) ∨ G.hid (G2.ι i)
        · rw [a.keep _ o e hn] at q; cases q
        · have : ∃ j, j < G.n ∧ G.ι j = G2.ι i := by
            apply Classical.byContradiction
            intro z
            exact hn (Classical.byCases (fun w => .inr w) fun w => .inl ⟨fun j hj ej => z ⟨j, hj, ej⟩, w⟩)
          obtain ⟨j, hj, ej⟩ := this
          obtain ⟨o', ho'⟩ := a.there j hj ⟨o, by rw [ej]; exact e⟩
          rw [ej, q] at ho'; cases ho'
  there := fun i hi h => by
    have h1 := a.there i hi h
    have := b.there i (Nat.lt_of_lt_of_le hi a.le) (by rw [a.ι i hi]; exact h1)
    rw [a.ι i hi] at this
    exact this

/-- what a value's reading leans on -/
structure Keep (G : Gh) (H : Hp) (G' : Gh) (H' : Hp) : Prop where
  keep : ∀ a o, H a = some o → NS G a → H' a = some o ∧ NS G' a
  le : G.n ≤ G'.n
  ι : ∀ i, i < G.n → G'.ι i = G.ι i
theorem Step.kp {G G' : Gh} {H H' : Hp} (s : Step G H G' H') : Keep G H G' H' := ⟨fun a o h n => ⟨s.keep a o h (.inl n), s.ns h n⟩, s.le, s.ι⟩
theorem TupAt.kp {U : Wd} {G G' : Gh} {H H' : Hp} {a : Addr} {vs : List V} (s : Keep G H G' H') (h : TupAt U G H a vs) : TupAt U G' H' a vs := by
  rcases h with ⟨⟨o, h, e⟩, n⟩ | h
  · exact .inl ⟨⟨o, (s.keep _ _ h n).1, e⟩, (s.keep _ _ h n).2⟩
  · exact .inr h
theorem WTupAt.kp {U : Wd} {G G' : Gh} {H H' : Hp} {a : Addr} {vs : List V} (s : Keep G H G' H') (h : WTupAt U G H a vs) : WTupAt U G' H' a vs := by
  rcases h with ⟨h | ⟨o, h⟩, n⟩ | h
  · exact .inl ⟨.inl (s.keep _ _ h n).1, (s.keep _ _ h n).2⟩
  · exact .inl ⟨.inr ⟨o, (s.keep _ _ h n).1⟩, (s.keep _ _ h n).2⟩
  · exact .inr h
theorem ArgAt.kp {U : Wd} {G G' : Gh} {H H' : Hp} {a : Addr} {vs : List V} (s : Keep G H G' H') (h : ArgAt U G H a vs) : ArgAt U G' H' a vs := by
  rcases h with ⟨h | ⟨o, h⟩, n⟩ | h
  · exact .inl ⟨.inl (s.keep _ _ h n).1, (s.keep _ _ h n).2⟩
  · exact .inl ⟨.inr ⟨o, (s.keep _ _ h n).1⟩, (s.keep _ _ h n).2⟩
  · exact .inr h
theorem LstAt.kp {U : Wd} {G G' : Gh} {H H' : Hp} {a : Addr} {vs : List V} (s : Keep G H G' H') (h : LstAt U G H a vs) : LstAt U G' H' a vs := by
  rcases h with ⟨h | ⟨o, h⟩, n⟩
  · exact ⟨.inl (s.keep _ _ h n).1, (s.keep _ _ h n).2⟩
  · exact ⟨.inr ⟨o, (s.keep _ _ h n).1⟩, (s.keep _ _ h n).2⟩
section
variable {U : Wd} {G G' : Gh} {H H' : Hp}
mutual
theorem DV.kp (s : Keep G H G' H') : ∀ {d : D} {v : V}, DV U G H d v → DV U G' H' d v
  | .non, _, h => h
  | .bl _, _, h => h
  | .int _, _, h => h
  | .str _, _, h => h
  | .tup ds, _, ⟨a, vs, e, t, h⟩ => ⟨a, vs, e, t.kp s, DVs.kp s h⟩
  | .lst ds, _, ⟨a, vs, e, t, h⟩ => ⟨a, vs, e, t.kp s, DVs.kp s h⟩
  | .dct ks zs, _, ⟨a, kvs, e, t, h1, h2⟩ => ⟨a, kvs, e, s.keep _ _ t.1 t.2, h1, DVs.kp s h2⟩
  | .dcn ks zs, _, ⟨a, xs, e, t, h1, h3, h2⟩ => ⟨a, xs, e, s.keep _ _ t.1 t.2, h1, DVs.kp s h3, DVs.kp s h2⟩
  | .ref n, _, ⟨h, e⟩ => ⟨Nat.lt_of_lt_of_le h s.le, by rw [e, s.ι n h]⟩
  | .arg ns, _, ⟨a, e, t⟩ => ⟨a, e, t.kp s⟩
theorem DVs.kp (s : Keep G H G' H') : ∀ {ds : List D} {vs : List V}, DVs U G H ds vs → DVs U G' H' ds vs
  | [], _, h => h
  | d :: ds, _, ⟨v, r, e, h1, h2⟩ => ⟨v, r, e, DV.kp s h1, DVs.kp s h2⟩
end
/-- a value, or any tuple of values -/
def DVw (U : Wd) (G : Gh) (H : Hp) (d : D) (v : V) : Prop := DV U G H d v ∨ ∃ ds a vs, d = .tup ds ∧ v = .ref a ∧ WTupAt U G H a vs ∧ DVs U G H ds vs
/-- what a target gets: where it is written as a tuple, any tuple -/
def DVt (tg : Expr) (U : Wd) (G : Gh) (H : Hp) (d : D) (v : V) : Prop := match tg with
  | .Tuple _ _ _ => DVw U G H d v
  | _ => DV U G H d v
theorem DVt.of {tg : Expr} {U : Wd} {G : Gh} {H : Hp} {d : D} {v : V} (h : DV U G H d v) : DVt tg U G H d v := by
  unfold DVt
  split
  · exact .inl h
  · exact h
theorem DVt.kp {tg : Expr} {d : D} {v : V} (s : Keep G H G' H') (h : DVt tg U G H d v) : DVt tg U G' H' d v := by
  unfold DVt at *
  split
  · rcases h with h | ⟨ds, a, vs, e1, e2, t, q⟩
    · exact .inl (h.kp s)
    · exact .inr ⟨ds, a, vs, e1, e2, t.kp s, q.kp s⟩
  · rename_i no
    split at h
    · exact absurd rfl (no _ _ _)
    · exact DV.kp s h
theorem DV.mono (s : Step G H G' H') {d : D} {v : V} (h : DV U G H d v) : DV U G' H' d v := DV.kp s.kp h
theorem DVs.mono (s : Step G H G' H') {d : List D} {v : List V} (h : DVs U G H d v) : DVs U G' H' d v := DVs.kp s.kp h
theorem DVt.mono {tg : Expr} (s : Step G H G' H') {d : D} {v : V} (h : DVt tg U G H d v) : DVt tg U G' H' d v := h.kp s.kp
theorem TupAt.mono {a : Addr} {vs : List V} (s : Step G H G' H') (h : TupAt U G H a vs) : TupAt U G' H' a vs := h.kp s.kp
theorem LstAt.mono {a : Addr} {vs : List V} (s : Step G H G' H') (h : LstAt U G H a vs) : LstAt U G' H' a vs := h.kp s.kp
end

/-- what may change -/
def chg : HO → Bool
  | .lst _ | .dK _ | .ext _ | .ins _ _ _ | .tbl _ => true
  | _ => false
def isX : HO → Bool
  | .ext _ => true
  | _ => false
/-- what may change stands at a: if it is one of the layer's own words, a dict of nested keys -/
def Chg (U : Wd) (a : Addr) (u : HO) : Prop := chg u = true ∧ (isX u = true → ∃ xs, u = nesHO U a xs)
theorem chg_of {U : Wd} {a : Addr} {u : HO} (h : chg u = true) (x : isX u = false) : Chg U a u := ⟨h, fun y => by rw [x] at y; cases y⟩
/-- a code object is no dict -/
theorem nes_ne {U : Wd} {a c : Addr} {xs : List Ent} {q : Str} (t : Tok) : nesHO U a xs ≠ LamX.CodeO c q := by
  intro e
  unfold nesHO LamX.CodeO at e
  injection e with e
  have z := congrFun e (⟨Array.replicate (c + 1) ⟨.none, none, .fields #[.none, .str q t], #[]⟩, {}⟩ : Heap)
  have r : ∃ (oc : Obj) (vs : Array Value) (t' : Tok), (⟨Array.replicate (c + 1) ⟨.none, none, .fields #[.none, .str q t], #[]⟩, {}⟩ : Heap).get? c = some oc ∧ oc.data = .fields vs ∧ vs[1]? = some (.str q t') := by
    refine ⟨⟨.none, none, .fields #[.none, .str q t], #[]⟩, #[.none, .str q t], t, ?_, rfl, rfl⟩
    unfold Heap.get?
    simp
  have z2 := z.mpr r
  obtain ⟨_, _, o, des, ep, h1, _, h3, _⟩ := z2
  unfold Heap.get? at h1
  simp only [Array.getElem?_replicate] at h1
  split at h1
  · cases h1
  · rename_i hx
    split at h1
    · cases h1; cases h3
    · cases h1
/-- the store as it lies -/
structure RelS (U : Wd) (G : Gh) (S : Sto) (H : Hp) : Prop where
  wf : S.Wf
  n : G.n = S.len
  at_ : ∀ i o, S.get i = some o → OV U G H o (G.ι i)
  inj : ∀ i j, i < G.n → j < G.n → G.ι i = G.ι j → i = j
  hid : ∀ a, G.hid a → ∃ u, H a = some u ∧ Chg U a u
  dis : ∀ i, i < G.n → ¬ G.hid (G.ι i)
/-- the slots -/
def RelE (U : Wd) (G : Gh) (ρ : List (Option D)) (σ : L2.St) (H : Hp) : Prop := ρ.length = σ.length ∧ ∀ (i : Nat) (d : D), ρ[i]? = some (some d) → ∃ v, σ[i]? = some (some v) ∧ DV U G H d v
theorem RelE.kp {U : Wd} {G G' : Gh} {ρ : List (Option D)} {σ : L2.St} {H H' : Hp} (r : RelE U G ρ σ H) (s : Keep G H G' H') : RelE U G' ρ σ H' :=
  ⟨r.1, fun i d h => let ⟨v, e, q⟩ := r.2 i d h; ⟨v, e, q.kp s⟩⟩
theorem RelE.mono {U : Wd} {G G' : Gh} {ρ : List (Option D)} {σ : L2.St} {H H' : Hp} (r : RelE U G ρ σ H) (s : Step G H G' H') : RelE U G' ρ σ H' :=
  ⟨r.1, fun i d h => let ⟨v, e, q⟩ := r.2 i d h; ⟨v, e, q.mono s⟩⟩
theorem OV.some {U : Wd} {G : Gh} {H : Hp} {o : O} {a : Addr} (h : OV U G H o a) : ∃ u, H a = some u ∧ Chg U a u := by
  cases o with
  | lst ds => obtain ⟨vs, e, _⟩ := h; exact ⟨_, e, chg_of rfl rfl⟩
  | dct ks zs => obtain ⟨kvs, e, _⟩ := h; exact ⟨_, e, chg_of rfl rfl⟩
  | dcn ks zs => obtain ⟨xs, e, _⟩ := h; exact ⟨_, e, rfl, fun _ => ⟨xs, rfl⟩⟩
  | bag b => obtain ⟨c, e, _⟩ := h; exact ⟨_, e, chg_of rfl rfl⟩
  | ins c fs => obtain ⟨C, dx, fvs, _, e, _⟩ := h; exact ⟨_, e, chg_of rfl rfl⟩
  | tbl q => obtain ⟨_, ps, e, _⟩ := h; exact ⟨_, e, chg_of rfl rfl⟩
theorem RelS.some {U : Wd} {G : Gh} {S : Sto} {H : Hp} (r : RelS U G S H) {i : Nat} (h : i < G.n) : ∃ u, H (G.ι i) = some u ∧ Chg U (G.ι i) u := by
  obtain ⟨o, e⟩ := r.wf.get (n := i) (by rw [← r.n]; exact h)
  exact (r.at_ i o e).some
/-- an address that nothing tracks is none of the store's -/
theorem RelS.ns {U : Wd} {G : Gh} {S : Sto} {H : Hp} (r : RelS U G S H) {p : Addr} (h : H p = none) : NS G p := by
  refine ⟨fun i hi e => ?_, fun z => ?_⟩
  · obtain ⟨u, q, _⟩ := r.some hi
    rw [e, h] at q; cases q
  · obtain ⟨u, q, _⟩ := r.hid p z
    rw [h] at q; cases q
/-- what never changes is none of the store's -/
theorem RelS.ns_tup {U : Wd} {G : Gh} {S : Sto} {H : Hp} (r : RelS U G S H) {p : Addr} {xs : List V} (h : Rd H p (.tup xs)) : NS G p := by
  refine ⟨fun i hi e => ?_, fun z => ?_⟩
  · obtain ⟨u, q, m⟩ := r.some hi
    rw [e] at q
    rcases h with h | ⟨o, h⟩ <;> (rw [h] at q; cases q; cases m.1)
  · obtain ⟨u, q, m⟩ := r.hid p z
    rcases h with h | ⟨o, h⟩ <;> (rw [h] at q; cases q; cases m.1)
/-- objects stay as they are under a step that leaves the store's objects -/
theorem OV.kp {U : Wd} {G G' : Gh} {H H' : Hp} {o : O} {a : Addr} (h : OV U G H o a) (s : Keep G H G' H') (k : H' a = H a) : OV U G' H' o a := by
  cases o with
  | lst ds => obtain ⟨vs, e, q⟩ := h; exact ⟨vs, k.trans e, q.kp s⟩
  | dct ks zs => obtain ⟨kvs, e, q1, q2⟩ := h; exact ⟨kvs, k.trans e, q1, q2.kp s⟩
  | dcn ks zs => obtain ⟨xs, e, q1, q3, q2⟩ := h; exact ⟨xs, k.trans e, q1, q3.kp s, q2.kp s⟩
  | bag b => obtain ⟨c, e, q⟩ := h; exact ⟨c, k.trans e, q.kp s⟩
  | tbl q => obtain ⟨ea, ps, e, t, z⟩ := h; exact ⟨ea, ps, k.trans e, t, fun pos cv hc => let ⟨c, e1, e2, n⟩ := z pos cv hc; ⟨c, e1, (s.keep _ _ e2 n).1, (s.keep _ _ e2 n).2⟩⟩
  | ins c fs => obtain ⟨C, dx, fvs, m, e, ed, nd, q1, q2⟩ := h; exact ⟨C, dx, fvs, m, k.trans e, (s.keep _ _ ed nd).1, (s.keep _ _ ed nd).2, q1, q2.kp s⟩
theorem OV.mono {U : Wd} {G G' : Gh} {H H' : Hp} {o : O} {a : Addr} (h : OV U G H o a) (s : Step G H G' H') (k : H' a = H a) : OV U G' H' o a := h.kp s.kp k
end Z

/-! Z2: results, the judgements over values, names, constants, tests, operators. -/
namespace Z
open PySem PySem.Spec PyProof.Rows L2

/-- an exception: its class's name, its fields -/
structure Ex where
  cls : Str
  fs : List (Str × D)
inductive R (α : Type) where
  | ok (a : α) (S : Sto) | ex (x : Ex) (S : Sto) | bad
def R.bind {α β : Type} (r : R α) (k : α → Sto → R β) : R β := match r with
  | .ok a S => k a S
  | .ex x S => .ex x S
  | .bad => .bad
abbrev Env := List (Option D)
abbrev E := Env → Sto → R D
abbrev T := Env → Sto → R Bool
abbrev As := Env → Sto → R (List D)
/-- a statement's end -/
inductive RS where
  | nx (ρ : Env) (S : Sto) | rt (d : D) (S : Sto) | bk (ρ : Env) (S : Sto) | ct (ρ : Env) (S : Sto) | ex (x : Ex) (ρ : Env) (S : Sto) | bad
abbrev C := Env → Sto → RS

/-- the exception x, by its class and its own dict -/
def XV (U : Wd) (G : Gh) (H : Hp) (x : Ex) (cls : Value) (dd : Option Addr) : Prop := ∃ C, U.mg x.cls = some (.ref C) ∧ cls = .ref C ∧
  ((x.fs = [] ∧ dd = none) ∨ ∃ d fvs, dd = some d ∧ H d = some (.xd fvs) ∧ NS G d ∧ x.fs.map (·.1) = fvs.map (·.1) ∧ DVs U G H (x.fs.map (·.2)) (fvs.map (·.2)))

section
variable {α β α' β' : Type}
/-- what is wanted of a result -/
def Go (rel : Gh → Hp → α → α' → Prop) (U : Wd) (W : WX) (σ : L2.St) (G : Gh) (H : Hp) (r : R α) (Q : α' → Hp → Prop) : Prop := match r with
  | .ok d S' => ∀ G' v H', Step G H G' H' → RelS U G' S' H' → rel G' H' d v → Q v H'
  | .ex x S' => ∀ G' H' cls dd, Step G H G' H' → RelS U G' S' H' → XV U G' H' x cls dd → W cls dd σ H'
  | .bad => False
variable {rel : Gh → Hp → α → α' → Prop} {rel2 : Gh → Hp → β → β' → Prop} {U : Wd} {W : WX} {σ : L2.St} {G G1 : Gh} {H H1 : Hp}
theorem Go.step {r : R α} {Q : α' → Hp → Prop} (s : Step G H G1 H1) (h : Go rel U W σ G H r Q) : Go rel U W σ G1 H1 r Q := by
  cases r with
  | ok d S => exact fun G' v H' s' => h G' v H' (s.trans s')
  | ex x S => exact fun G' H' c dd s' => h G' H' c dd (s.trans s')
  | bad => exact h
theorem Go.mono {r : R α} {Q Q' : α' → Hp → Prop} (h : Go rel U W σ G H r Q) (i : ∀ v H', Q v H' → Q' v H') : Go rel U W σ G H r Q' := by
  cases r with
  | ok d S => exact fun G' v H' s r q => i v H' (h G' v H' s r q)
  | ex x S => exact h
  | bad => exact h
theorem Go.bind {r : R α} {k : α → Sto → R β} {Q : β' → Hp → Prop} (h : Go rel2 U W σ G H (r.bind k) Q) :
    Go rel U W σ G H r (fun v H1 => ∃ G1 a S1, Step G H G1 H1 ∧ RelS U G1 S1 H1 ∧ rel G1 H1 a v ∧ Go rel2 U W σ G1 H1 (k a S1) Q) := by
  cases r with
  | ok d S => exact fun G' v H' s r q => ⟨G', d, S, s, r, q, Go.step s h⟩
  | ex x S => exact h
  | bad => exact h
/-- a result as it stands -/
theorem Go.ret {d : α} {S : Sto} {v : α'} {Q : α' → Hp → Prop} (h : Go rel U W σ G H (.ok d S) Q) (r : RelS U G S H) (q : rel G H d v) : Q v H := h G v H Step.refl r q
end

abbrev GoD (U : Wd) := Go (α := D) (α' := V) (DV U) U
abbrev relB : Gh → Hp → Bool → Bool → Prop := fun _ _ a b => a = b
abbrev GoB (U : Wd) := Go (α := Bool) (α' := Bool) relB U
abbrev relA (U : Wd) : Gh → Hp → List D → List V → Prop := fun G H a b => DVs U G H a b
abbrev GoA (U : Wd) := Go (α := List D) (α' := List V) (relA U) U

/-! ### the judgements -/
def tEv (U : Wd) (m : E) (W : WX) : TE := fun σ H Q => ∃ G ρ S, RelS U G S H ∧ RelE U G ρ σ H ∧ GoD U W σ G H (m ρ S) Q
def tTv (U : Wd) (m : T) (W : WX) : TT := fun σ H Q => ∃ G ρ S, RelS U G S H ∧ RelE U G ρ σ H ∧ GoB U W σ G H (m ρ S) Q
def tAv (U : Wd) (m : As) (W : WX) : TA := fun σ H Q => ∃ G ρ S, RelS U G S H ∧ RelE U G ρ σ H ∧ GoA U W σ G H (m ρ S) Q
def CE (X : Cx) (e : Expr) (m : E) : Prop := ∀ W, Takes X W → PE X e (tEv (wd X) m W)
def CT (X : Cx) (e : Expr) (m : T) : Prop := ∀ W, Takes X W → PT X e (tTv (wd X) m W)
def CW (X : Cx) (e : Expr) (m : T) : Prop := ∀ W, Takes X W → PW X e (tTv (wd X) m W)
def CA (X : Cx) (es : List Expr) (m : As) : Prop := ∀ W, Takes X W → PA X es (tAv (wd X) m W)

theorem PE.imp {X : Cx} {e : Expr} {t t' : TE} (h : PE X e t) (i : ∀ σ H Q, t' σ H Q → t σ H Q) : PE X e t' := ⟨fun p s σ H Q I q => h.run p s σ H Q I (i σ H Q q)⟩
theorem PT.imp {X : Cx} {e : Expr} {t t' : TT} (h : PT X e t) (i : ∀ σ H Q, t' σ H Q → t σ H Q) : PT X e t' := ⟨fun p s σ H Q I q => h.run p s σ H Q I (i σ H Q q)⟩
theorem PW.imp {X : Cx} {e : Expr} {t t' : TT} (h : PW X e t) (i : ∀ σ H Q, t' σ H Q → t σ H Q) : PW X e t' := ⟨fun w p s σ H Q I q => h.run w p s σ H Q I (i σ H Q q)⟩
theorem PA.imp {X : Cx} {e : List Expr} {t t' : TA} (h : PA X e t) (i : ∀ σ H Q, t' σ H Q → t σ H Q) : PA X e t' := ⟨fun w p s σ H Q I q => h.run w p s σ H Q I (i σ H Q q)⟩
theorem OpR.imp {X : Cx} {f : Value → Value → Sem Value} {r r' : R2} (h : OpR X f r) (i : ∀ x y H Q, r' x y H Q → r x y H Q) : OpR X f r' := fun pins s σ H x y v u Q I rx ry q => h pins s σ H x y v u Q I rx ry (i x y H Q q)
theorem CallR.imp {X : Cx} {f : Value} {r r' : List V → Hp → VK → Prop} (h : CallR X f r) (i : ∀ x H Q, r' x H Q → r x H Q) : CallR X f r' := fun pins s σ H x v Q I rx q => h pins s σ H x v Q I rx (i x H Q q)

/-- an expression in front of what is wanted behind it -/
theorem tEv.bind {α α' : Type} {rel : Gh → Hp → α → α' → Prop} {U : Wd} {m : E} {W : WX} {σ : L2.St} {H : Hp} {G : Gh} {ρ : Env} {S : Sto} {k : D → Sto → R α} {Q : α' → Hp → Prop} (rs : RelS U G S H) (re : RelE U G ρ σ H)
    (h : Go rel U W σ G H ((m ρ S).bind k) Q) : tEv U m W σ H (fun v H1 => ∃ G1 a S1, Step G H G1 H1 ∧ RelS U G1 S1 H1 ∧ RelE U G1 ρ σ H1 ∧ DV U G1 H1 a v ∧ Go rel U W σ G1 H1 (k a S1) Q) :=
  ⟨G, ρ, S, rs, re, Go.mono (Go.bind (rel := DV U) h) fun v H1 ⟨G1, a, S1, s, r, q, g⟩ => ⟨G1, a, S1, s, r, re.mono s, q, g⟩⟩
theorem tTv.bind {α α' : Type} {rel : Gh → Hp → α → α' → Prop} {U : Wd} {m : T} {W : WX} {σ : L2.St} {H : Hp} {G : Gh} {ρ : Env} {S : Sto} {k : Bool → Sto → R α} {Q : α' → Hp → Prop} (rs : RelS U G S H) (re : RelE U G ρ σ H)
    (h : Go rel U W σ G H ((m ρ S).bind k) Q) : tTv U m W σ H (fun b H1 => ∃ G1 S1, Step G H G1 H1 ∧ RelS U G1 S1 H1 ∧ RelE U G1 ρ σ H1 ∧ Go rel U W σ G1 H1 (k b S1) Q) :=
  ⟨G, ρ, S, rs, re, Go.mono (Go.bind (rel := relB) h) fun v H1 ⟨G1, a, S1, s, r, q, g⟩ => ⟨G1, S1, s, r, re.mono s, by cases (show a = v from q); exact g⟩⟩
theorem tAv.bind {α α' : Type} {rel : Gh → Hp → α → α' → Prop} {U : Wd} {m : As} {W : WX} {σ : L2.St} {H : Hp} {G : Gh} {ρ : Env} {S : Sto} {k : List D → Sto → R α} {Q : α' → Hp → Prop} (rs : RelS U G S H) (re : RelE U G ρ σ H)
    (h : Go rel U W σ G H ((m ρ S).bind k) Q) : tAv U m W σ H (fun v H1 => ∃ G1 a S1, Step G H G1 H1 ∧ RelS U G1 S1 H1 ∧ RelE U G1 ρ σ H1 ∧ DVs U G1 H1 a v ∧ Go rel U W σ G1 H1 (k a S1) Q) :=
  ⟨G, ρ, S, rs, re, Go.mono (Go.bind (rel := relA U) h) fun v H1 ⟨G1, a, S1, s, r, q, g⟩ => ⟨G1, a, S1, s, r, re.mono s, q, g⟩⟩

section
variable {X : Cx} {pos : Pos}
/-! ### names and constants -/
def eVar (i : Nat) : E := fun ρ S => match ρ[i]? with
  | some (some d) => .ok d S
  | _ => .bad
def eC (d : D) : E := fun _ S => .ok d S
theorem ce_var (i : Nat) {x : Str} (hN : X.N[i]? = some x := by rfl) (hv : Vis X.env.scope x := by first | exact Or.inl rfl | exact Or.inr (Or.inl rfl) | exact Or.inr (Or.inr rfl)) (hd : (x == ("__debug__" : Str)) = false := by decide) (hcd : (x == ("__classdict__" : Str)) = false := by decide) :
    CE X (.Name x pos) (eVar i) := fun W tk => PE.imp (pe_var hN hv hd hcd) fun σ H Q ⟨G, ρ, S, rs, re, h⟩ => by
  unfold eVar at h
  split at h
  · rename_i d e
    obtain ⟨v, e1, q⟩ := re.2 i d e
    exact ⟨v, e1, Go.ret h rs q⟩
  · exact h.elim
theorem ce_int {i j} : CE X (.Constant (.int i) j pos) (eC (.int i)) := fun W tk => PE.imp pe_int fun σ H Q ⟨G, ρ, S, rs, re, h⟩ => Go.ret h rs rfl
theorem ce_bl {i j} : CE X (.Constant (.bool i) j pos) (eC (.bl i)) := fun W tk => PE.imp pe_bl fun σ H Q ⟨G, ρ, S, rs, re, h⟩ => Go.ret h rs rfl
theorem ce_non {j} : CE X (.Constant .none j pos) (eC .non) := fun W tk => PE.imp pe_non fun σ H Q ⟨G, ρ, S, rs, re, h⟩ => Go.ret h rs rfl
theorem ce_str {x : Str} {l : List Nat} {j} (hx : x = ⟨l.toArray⟩ := by rfl) : CE X (.Constant (.str x) j pos) (eC (.str l)) := fun W tk => PE.imp pe_str fun σ H Q ⟨G, ρ, S, rs, re, h⟩ => Go.ret h rs (congrArg V.str hx)
/-- a name of the module -/
theorem ce_glob {x : Str} {d : D} {v : V} {u : Value} (hg : Gl X x) (hm : X.mg x = some u) (r : RelV v u) (q : ∀ G H, DV (wd X) G H d v) (hd : (x == ("__debug__" : Str)) = false := by decide) : CE X (.Name x pos) (eC d) :=
  fun W tk => PE.imp (pe_glob hg hm r hd) fun σ H Q ⟨G, ρ, S, rs, re, h⟩ => Go.ret h rs (q G H)

/-! ### arguments, displays -/
def aNil : As := fun _ S => .ok [] S
def aCons (m : E) (ms : As) : As := fun ρ S => (m ρ S).bind fun a S => (ms ρ S).bind fun as S => .ok (a :: as) S
theorem DVs.nil {U : Wd} {G : Gh} {H : Hp} : DVs U G H [] [] := rfl
theorem DVs.cons {U : Wd} {G : Gh} {H : Hp} {d : D} {v : V} {ds : List D} {vs : List V} (h : DV U G H d v) (t : DVs U G H ds vs) : DVs U G H (d :: ds) (v :: vs) := ⟨v, vs, rfl, h, t⟩
theorem ca_nil : CA X [] aNil := fun W tk => PA.imp pa_nil fun σ H Q ⟨G, ρ, S, rs, re, h⟩ => Go.ret h rs DVs.nil
theorem ca_cons {e : Expr} {es : List Expr} {m : E} {ms : As} (he : CE X e m) (hs : CA X es ms) (hst : starEach (e :: es) X.env = (false, eval e X.env) :: starEach es X.env := by rfl) : CA X (e :: es) (aCons m ms) := fun W tk =>
  PA.imp (pa_cons (he W tk) (hs W tk) hst) fun σ H Q ⟨G, ρ, S, rs, re, h⟩ => by
    obtain ⟨G0, ρ0, S0, a, b, c⟩ := tEv.bind rs re h
    refine ⟨G0, ρ0, S0, a, b, Go.mono c fun v H1 ⟨G1, d, S1, s, rs1, re1, dv, g⟩ => ?_⟩
    obtain ⟨G0, ρ0, S0, a, b, c⟩ := tAv.bind rs1 re1 g
    exact ⟨G0, ρ0, S0, a, b, Go.mono c fun vs H2 ⟨G2, ds, S2, s2, rs2, re2, dvs, g2⟩ => Go.ret g2 rs2 (DVs.cons (dv.mono s2) dvs)⟩
def line : Nat := 16777216
theorem line_eq : line = sizeLine := by rw [sizeLine_eq]; rfl
/-- no more than the line -/
def fits (n : Nat) : Bool := Nat.ble n 16777216
theorem fits_le {n : Nat} (h : fits n = true) : n ≤ sizeLine := by rw [sizeLine_eq]; exact Nat.le_of_ble_eq_true h
theorem DVs.length {U : Wd} {G : Gh} {H : Hp} : ∀ {ds : List D} {vs : List V}, DVs U G H ds vs → vs.length = ds.length
  | [], _, h => by rw [show _ = _ from h]; rfl
  | d :: ds, _, ⟨v, r, e, _, h⟩ => by rw [e, List.length_cons, List.length_cons, DVs.length h]
/-- a new object that is none of the store's -/
theorem step_new {U : Wd} {G : Gh} {S : Sto} {H : Hp} {p : Addr} {o : HO} (rs : RelS U G S H) (hp : H p = none) : Step G H G (upd H p o) where
  keep := fun a u h _ => by rw [upd_ne (ne_of_none h hp)]; exact h
  hid := fun _ h => h
  hnew := fun _ h => .inl h
  le := Nat.le_refl _
  ι := fun _ _ => rfl
  new := fun i h1 h2 => absurd h2 (Nat.not_lt.mpr h1)
  there := fun i hi ⟨u, h⟩ => by rw [upd_ne (ne_of_none h hp)]; exact ⟨u, h⟩
theorem rel_new {U : Wd} {G : Gh} {S : Sto} {H : Hp} {p : Addr} {o : HO} (rs : RelS U G S H) (hp : H p = none) : RelS U G S (upd H p o) where
  wf := rs.wf
  n := rs.n
  at_ := fun i u e => by
    have z := rs.at_ i u e
    obtain ⟨w, hw, _⟩ := z.some
    have k : upd H p o (G.ι i) = H (G.ι i) := upd_ne (ne_of_none hw hp)
    exact z.mono (step_new rs hp) k
  inj := rs.inj
  hid := fun a z => by
    obtain ⟨u, h, m⟩ := rs.hid a z
    exact ⟨u, by rw [upd_ne (ne_of_none h hp)]; exact h, m⟩
  dis := rs.dis
theorem new_tup {U : Wd} {G : Gh} {S : Sto} {H : Hp} {p : Addr} {ds : List D} {vs : List V} {o : Obj} (rs : RelS U G S H) (hp : H p = none) (hd : o.dict = none) (q : DVs U G H ds vs) : DV U G (upd H p (.frz o (.tup vs))) (.tup ds) (.ref p) :=
  ⟨p, vs, rfl, .inl ⟨⟨o, upd_same, hd⟩, rs.ns hp⟩, q.mono (step_new rs hp)⟩
theorem new_lst {U : Wd} {G : Gh} {S : Sto} {H : Hp} {p : Addr} {ds : List D} {vs : List V} (rs : RelS U G S H) (hp : H p = none) (q : DVs U G H ds vs) : DV U G (upd H p (.lst vs)) (.lst ds) (.ref p) :=
  ⟨p, vs, rfl, ⟨.inl upd_same, rs.ns hp⟩, q.mono (step_new rs hp)⟩
theorem Go.new {α α' : Type} {rel : Gh → Hp → α → α' → Prop} {U : Wd} {W : WX} {σ : L2.St} {G : Gh} {H : Hp} {d : α} {S : Sto} {Q : α' → Hp → Prop} {p : Addr} {o : HO} {v : α'} (h : Go rel U W σ G H (.ok d S) Q) (rs : RelS U G S H) (hp : H p = none) (q : rel G (upd H p o) d v) : Q v (upd H p o) :=
  h G v _ (step_new rs hp) (rel_new rs hp) q
/-- a tuple, its object known -/
def tTupF (t : TA) : TE := fun σ H Q => t σ H fun xs H1 => xs.length ≤ sizeLine ∧ ∀ (p : Addr) (o : Obj), H1 p = none → o.dict = none → Q (.ref p) (upd H1 p (.frz o (.tup xs)))
theorem pe_tupF {X : Cx} {es : List Expr} {t : TA} {x1 : Nat} {pos : Pos} (h : PA X es t) : PE X (.Tuple es x1 pos) (tTupF t) := by
  refine ⟨fun pins s σ H Q I hq => ?_⟩
  refine wpAny_Tuple_spliced (thn (h.run pos pins s σ H _ I hq) fun us s1 ⟨xs, H1, I1, r, z, q⟩ => ⟨by rw [← r.length]; exact z, ?_⟩)
  have hf : H1 s1.heap.objs.size = none := I1.hok.fresh (Nat.le_refl _)
  refine ⟨.ref s1.heap.objs.size, _, I1.laid (t' := s1.toks) (o := .frz _ (.tup xs)) (fun b u e => Heap.get?_push_of_some _ e) (Nat.le_refl _) ⟨Heap.get?_push_size _ rfl, ?_⟩, rfl, q _ _ hf rfl⟩
  exact ⟨z, us, r, ⟨_, Heap.get?_push_size _ rfl, rfl, _, rfl⟩⟩
def eTup (m : As) : E := fun ρ S => (m ρ S).bind fun as S => if fits as.length = true then .ok (.tup as) S else .bad
theorem ce_tup {es : List Expr} {k : Nat} {m : As} (h : CA X es m) : CE X (.Tuple es k pos) (eTup m) := fun W tk => PE.imp (pe_tupF (h W tk)) fun σ H Q ⟨G, ρ, S, rs, re, h⟩ => by
  obtain ⟨G0, ρ0, S0, a, b, c⟩ := tAv.bind rs re h
  refine ⟨G0, ρ0, S0, a, b, Go.mono c fun vs H1 ⟨G1, ds, S1, s, rs1, re1, dvs, g⟩ => ?_⟩
  split at g
  · rename_i hf
    refine ⟨by rw [dvs.length]; exact fits_le hf, fun p o hp ho => Go.new g rs1 hp (new_tup rs1 hp ho dvs)⟩
  · exact g.elim
/-- a list that is never changed -/
def eLst (m : As) : E := fun ρ S => (m ρ S).bind fun as S => if fits as.length = true then .ok (.lst as) S else .bad
theorem ce_lst {es : List Expr} {m : As} (h : CA X es m) : CE X (.List es pos) (eLst m) := fun W tk => PE.imp (pe_lst (h W tk)) fun σ H Q ⟨G, ρ, S, rs, re, h⟩ => by
  obtain ⟨G0, ρ0, S0, a, b, c⟩ := tAv.bind rs re h
  refine ⟨G0, ρ0, S0, a, b, Go.mono c fun vs H1 ⟨G1, ds, S1, s, rs1, re1, dvs, g⟩ => ?_⟩
  split at g
  · rename_i hf
    refine ⟨by rw [dvs.length]; exact fits_le hf, fun p hp => Go.new g rs1 hp (new_lst rs1 hp dvs)⟩
  · exact g.elim
/-! a new object of the store -/
def Gh.push (G : Gh) (p : Addr) : Gh := ⟨G.n + 1, fun i => if i < G.n then G.ι i else p, G.hid⟩
theorem push_lt {G : Gh} {p : Addr} {i : Nat} (h : i < G.n) : (G.push p).ι i = G.ι i := if_pos h
theorem push_self {G : Gh} {p : Addr} : (G.push p).ι G.n = p := if_neg (Nat.lt_irrefl _)
theorem step_push {U : Wd} {G : Gh} {S : Sto} {H : Hp} {p : Addr} {o : HO} (rs : RelS U G S H) (hp : H p = none) : Step G H (G.push p) (upd H p o) where
  keep := fun a u h _ => by rw [upd_ne (ne_of_none h hp)]; exact h
  hid := fun _ h => h
  hnew := fun _ h => .inl h
  le := Nat.le_succ _
  ι := fun _ h => push_lt h
  new := fun i h1 h2 => by
    have e : i = G.n := by have : i < G.n + 1 := h2; omega
    rw [e, push_self]; exact hp
  there := fun i hi ⟨u, h⟩ => by rw [upd_ne (ne_of_none h hp)]; exact ⟨u, h⟩
theorem rel_push {U : Wd} {G : Gh} {S : Sto} {H : Hp} {p : Addr} {o : O} {ho : HO} (rs : RelS U G S H) (hp : H p = none) (q : OV U (G.push p) (upd H p ho) o p) : RelS U (G.push p) (S.push o) (upd H p ho) where
  wf := rs.wf.push
  n := by show G.n + 1 = S.len + 1; rw [rs.n]
  at_ := fun i u e => by
    have hi : i < S.len + 1 := Sto.get_lt e
    by_cases hl : i < S.len
    · have hlG : i < G.n := by rw [rs.n]; exact hl
      rw [Sto.get_push_lt hl] at e
      have z := rs.at_ i u e
      obtain ⟨w, hw, _⟩ := z.some
      rw [push_lt hlG]
      exact z.mono (step_push rs hp) (upd_ne (ne_of_none hw hp))
    · have ei : i = S.len := by omega
      subst ei
      rw [Sto.get_push_self] at e
      cases e
      rw [← rs.n, push_self]
      exact q
  inj := fun i j hi hj e => by
    have hi : i < G.n + 1 := hi
    have hj : j < G.n + 1 := hj
    by_cases h1 : i < G.n <;> by_cases h2 : j < G.n
    · rw [push_lt h1, push_lt h2] at e; exact rs.inj i j h1 h2 e
    · have e2 : j = G.n := by omega
      rw [push_lt h1, e2, push_self] at e
      exact absurd e ((rs.ns hp).1 i h1)
    · have e2 : i = G.n := by omega
      rw [push_lt h2, e2, push_self] at e
      exact absurd e.symm ((rs.ns hp).1 j h2)
    · omega
  hid := fun a z => by
    obtain ⟨u, h, m⟩ := rs.hid a z
    exact ⟨u, by rw [upd_ne (ne_of_none h hp)]; exact h, m⟩
  dis := fun i hi z => by
    have hi : i < G.n + 1 := hi
    by_cases h1 : i < G.n
    · rw [push_lt h1] at z; exact rs.dis i h1 z
    · have e2 : i = G.n := by omega
      rw [e2, push_self] at z
      exact (rs.ns hp).2 z
/-! a change of one of the store's objects -/
theorem step_put {U : Wd} {G : Gh} {S : Sto} {H : Hp} {n : Nat} {o : HO} (rs : RelS U G S H) (hn : n < G.n) : Step G H G (upd H (G.ι n) o) where
  keep := fun a u h z => by
    have : a ≠ G.ι n := fun e => by
      subst e
      exact z.elim (fun z => z.1 n hn rfl) (rs.dis n hn)
    rw [upd_ne this]; exact h
  hid := fun _ h => h
  hnew := fun _ h => .inl h
  le := Nat.le_refl _
  ι := fun _ _ => rfl
  new := fun i h1 h2 => absurd h2 (Nat.not_lt.mpr h1)
  there := fun i hi ⟨u, h⟩ => by
    by_cases e : G.ι i = G.ι n
    · rw [e]; exact ⟨_, upd_same⟩
    · rw [upd_ne e]; exact ⟨u, h⟩
theorem rel_put {U : Wd} {G : Gh} {S : Sto} {H : Hp} {n : Nat} {o : HO} {ob : O} (rs : RelS U G S H) (hn : n < G.n) (q : OV U G (upd H (G.ι n) o) ob (G.ι n)) : RelS U G (S.set n ob) (upd H (G.ι n) o) where
  wf := rs.wf.set
  n := by rw [Sto.set_len]; exact rs.n
  at_ := fun i u e => by
    by_cases hi : i = n
    · subst hi
      rw [Sto.get_set_self rs.wf (by rw [← rs.n]; exact hn)] at e
      cases e
      exact q
    · rw [Sto.get_set_ne hi] at e
      have hl : i < G.n := by
        have := Sto.get_lt e
        rw [rs.n]; exact this
      refine (rs.at_ i u e).mono (step_put rs hn) (upd_ne fun z => hi (rs.inj i n hl hn z))
  inj := rs.inj
  hid := fun a z => by
    obtain ⟨u, h, m⟩ := rs.hid a z
    have : a ≠ G.ι n := fun e => by subst e; exact rs.dis n hn z
    exact ⟨u, by rw [upd_ne this]; exact h, m⟩
  dis := rs.dis
end
end Z

/-! Z3: equality, order, membership, arithmetic over values. -/
namespace Z
open PySem PySem.Spec PyProof.Rows L2

mutual
/-- == of values without references -/
def eqv : D → D → Bool
  | .non, .non => true
  | .bl a, .bl b => a == b
  | .bl a, .int j => decide ((if a then 1 else 0 : Int) = j)
  | .int i, .bl b => decide (i = (if b then 1 else 0 : Int))
  | .int i, .int j => decide (i = j)
  | .str x, .str y => decide (x = y)
  | .lst xs, .lst ys => eqvs xs ys
  | .tup xs, .tup ys => eqvs xs ys
  | _, _ => false
def eqvs : List D → List D → Bool
  | [], [] => true
  | x :: xs, y :: ys => eqv x y && eqvs xs ys
  | _, _ => false
end
mutual
def toPy : D → PyData
  | .non => .none
  | .bl b => .bool b
  | .int i => .int i
  | .str s => .str ⟨s.toArray⟩
  | .tup ds => .tuple (toPys ds)
  | .lst ds => .list (toPys ds)
  | .dct _ _ => .dict []
  | .dcn _ _ => .dict []
  | .ref _ => .dict []
  | .arg _ => .dict []
def toPys : List D → List PyData
  | [] => []
  | d :: ds => toPy d :: toPys ds
end
theorem str_eq {x y : List Nat} : ((⟨x.toArray⟩ : Str) == ⟨y.toArray⟩) = decide (x = y) := by
  by_cases e : x = y
  · subst e; simp
  · have : ¬ ((⟨x.toArray⟩ : Str) = ⟨y.toArray⟩) := fun z => e (by injection z with z; simpa using congrArg Array.toList z)
    rw [decide_eq_false e]; exact beq_eq_false_iff_ne.mpr this
mutual
theorem eqv_py : ∀ a b : D, PyData.eqv (toPy a) (toPy b) = eqv a b
  | .non, b => by cases b <;> rfl
  | .bl x, b => by
    cases b <;> first
      | rfl
      | (simp only [toPy, PyData.eqv, eqv]; exact (by rw [Bool.eq_iff_iff]; simp))
  | .int x, b => by
    cases b <;> first
      | rfl
      | (simp only [toPy, PyData.eqv, eqv]; exact (by rw [Bool.eq_iff_iff]; simp))
  | .str x, b => by
    cases b <;> first
      | rfl
      | exact str_eq
  | .tup xs, b => by
    cases b <;> first
      | rfl
      | (simp only [toPy, PyData.eqv, eqv]; exact eqvs_py _ _)
  | .lst xs, b => by
    cases b <;> first
      | rfl
      | (simp only [toPy, PyData.eqv, eqv]; exact eqvs_py _ _)
  | .dct _ _, b => by cases b <;> rfl
  | .dcn _ _, b => by cases b <;> rfl
  | .ref _, b => by cases b <;> rfl
  | .arg _, b => by cases b <;> rfl
theorem eqvs_py : ∀ a b : List D, PyData.eqvAll (toPys a) (toPys b) = eqvs a b
  | [], [] => rfl
  | [], _ :: _ => rfl
  | _ :: _, [] => rfl
  | x :: xs, y :: ys => by
    simp only [toPys, PyData.eqvAll, eqvs]
    rw [eqv_py x y, eqvs_py xs ys]
end
mutual
/-- of that depth at most, no references -/
def shp : Nat → D → Bool
  | _, .non => true
  | _, .bl _ => true
  | _, .int _ => true
  | _, .str s => s.all fun c => Nat.blt c 0x110000
  | n, .tup ds => shps n ds
  | n, .lst ds => shps n ds
  | _, .dct _ _ => false
  | _, .dcn _ _ => false
  | _, .ref _ => false
  | _, .arg _ => false
def shps : Nat → List D → Bool
  | 0, _ => false
  | _ + 1, [] => true
  | n + 1, d :: ds => shp n d && shps (n + 1) ds
end
mutual
theorem shp_ok : ∀ (n : Nat) (d : D), shp n d = true → (toPy d).canLay0 = true ∧ (toPy d).depth ≤ n
  | _, .non, _ => ⟨rfl, Nat.zero_le _⟩
  | _, .bl _, _ => ⟨rfl, Nat.zero_le _⟩
  | _, .int _, _ => ⟨rfl, Nat.zero_le _⟩
  | _, .str s, h => ⟨by
      show Array.all s.toArray (fun c => decide (c < 0x110000)) = true
      rw [List.all_toArray]
      have h : (s.all fun c => Nat.blt c 0x110000) = true := by simpa [shp] using h
      rw [List.all_eq_true] at h ⊢
      intro x hx
      have := h x hx
      exact decide_eq_true (Nat.lt_of_lt_of_le (Nat.le_of_ble_eq_true this) (Nat.le_refl _)), Nat.zero_le _⟩
  | n, .tup ds, h => by
    have h : shps n ds = true := by simpa [shp] using h
    exact shps_ok n ds h
  | n, .lst ds, h => by
    have h : shps n ds = true := by simpa [shp] using h
    exact shps_ok n ds h
  | _, .dct _ _, h => by simp [shp] at h
  | _, .dcn _ _, h => by simp [shp] at h
  | _, .ref _, h => by simp [shp] at h
  | _, .arg _, h => by simp [shp] at h
theorem shps_ok : ∀ (n : Nat) (ds : List D), shps n ds = true → PyData.canLayAll0 (toPys ds) = true ∧ PyData.depthAll (toPys ds) + 1 ≤ n
  | 0, _, h => by simp [shps] at h
  | n + 1, [], _ => ⟨rfl, by simp [toPys, PyData.depthAll]⟩
  | n + 1, d :: ds, h => by
    have h : (shp n d && shps (n + 1) ds) = true := by simpa [shps] using h
    obtain ⟨h1, h2⟩ := Bool.and_eq_true_iff.mp h
    obtain ⟨a1, a2⟩ := shp_ok n d h1
    obtain ⟨b1, b2⟩ := shps_ok (n + 1) ds h2
    refine ⟨by simp [toPys, PyData.canLayAll0, a1, b1], ?_⟩
    simp only [toPys, PyData.depthAll]
    omega
end
/-- a list of the store, read -/
def rd (S : Sto) : D → D
  | .ref n => match S.get n with
    | some (.lst ds) => .lst ds
    | some (.dct ks zs) => .dct ks zs
    | some (.dcn ks zs) => .dcn ks zs
    | some (.bag b) => .lst [.int b.a, .int b.b, .int b.c, .lst (b.l.map .int)]
    | _ => .ref n
  | d => d
section
variable {U : Wd} {G : Gh} {H : Hp} {S : Sto}
mutual
theorem DV.dp : ∀ {d : D} {v : V} {n : Nat}, shp n d = true → DV U G H d v → Dp U.K H v (toPy d)
  | .non, _, _, _, h => by cases (show _ = _ from h); exact .non
  | .bl b, _, _, _, h => by cases (show _ = _ from h); exact .bl b
  | .int i, _, _, _, h => by cases (show _ = _ from h); exact .int i
  | .str s, _, _, _, h => by cases (show _ = _ from h); exact .str _
  | .tup ds, _, n, hs, ⟨a, vs, e, t, h⟩ => by
    subst e
    exact .tup t.sq (DVs.dp (n := n) (by simpa [shp] using hs) h)
  | .lst ds, _, n, hs, ⟨a, vs, e, t, h⟩ => by
    subst e
    exact .lst t.sq (DVs.dp (n := n) (by simpa [shp] using hs) h)
  | .dct _ _, _, _, hs, _ => by simp [shp] at hs
  | .dcn _ _, _, _, hs, _ => by simp [shp] at hs
  | .ref _, _, _, hs, _ => by simp [shp] at hs
  | .arg _, _, _, hs, _ => by simp [shp] at hs
theorem DVs.dp : ∀ {ds : List D} {vs : List V} {n : Nat}, shps n ds = true → DVs U G H ds vs → DpAll U.K H vs (toPys ds)
  | [], _, _, _, h => by cases (show _ = _ from h); exact .nil
  | d :: ds, _, 0, hs, _ => by simp [shps] at hs
  | d :: ds, _, n + 1, hs, ⟨v, r, e, h1, h2⟩ => by
    subst e
    have hs : (shp n d && shps (n + 1) ds) = true := by simpa [shps] using hs
    obtain ⟨s1, s2⟩ := Bool.and_eq_true_iff.mp hs
    exact .cons (DV.dp s1 h1) (DVs.dp s2 h2)
end
theorem ints_vs : ∀ {l : List Int}, DVs U G H (l.map .int) (l.map .int)
  | [] => rfl
  | i :: l => ⟨_, _, rfl, rfl, ints_vs⟩
theorem bag_vs {b : Bag} {c : Addr} (q : LstAt U G H c (b.l.map .int)) : DVs U G H [D.int b.a, .int b.b, .int b.c, .lst (b.l.map .int)] [.int b.a, .int b.b, .int b.c, .ref c] :=
  ⟨_, _, rfl, rfl, _, _, rfl, rfl, _, _, rfl, rfl, _, _, rfl, ⟨_, _, rfl, q, ints_vs⟩, rfl⟩
theorem DV.dpr (rs : RelS U G S H) {d : D} {v : V} {n : Nat} (hs : shp n (rd S d) = true) (h : DV U G H d v) : Dp U.K H v (toPy (rd S d)) := by
  cases d with
  | ref m =>
    obtain ⟨hm, rfl⟩ := h
    unfold rd at hs ⊢
    dsimp only at hs ⊢
    cases e : S.get m with
    | none => rw [e] at hs; simp [shp] at hs
    | some o =>
      rw [e] at hs
      cases o with
      | lst ds =>
        dsimp only at hs ⊢
        obtain ⟨vs, e1, q⟩ := rs.at_ m _ e
        exact .lst (.inl (.inl e1)) (DVs.dp (n := n) (by simpa [shp] using hs) q)
      | dct ks zs => simp [shp] at hs
      | dcn ks zs => simp [shp] at hs
      | bag b =>
        dsimp only at hs ⊢
        obtain ⟨c, e1, q⟩ := rs.at_ m _ e
        have qs : DVs U G H [D.int b.a, .int b.b, .int b.c, .lst (b.l.map .int)] [.int b.a, .int b.b, .int b.c, .ref c] := bag_vs q
        exact .lst (.inl (.inl e1)) (DVs.dp (n := n) (by simpa [shp] using hs) qs)
      | tbl _ => simp [shp] at hs
      | ins c fs => simp [shp] at hs
  | non => exact DV.dp hs h
  | bl b => exact DV.dp hs h
  | int i => exact DV.dp hs h
  | str s => exact DV.dp hs h
  | tup ds => exact DV.dp hs h
  | lst ds => exact DV.dp hs h
  | dct ks zs => exact DV.dp hs h
  | dcn ks zs => exact DV.dp hs h
  | arg ns => exact DV.dp hs h
end
theorem shaped_of {n : Nat} {d : D} (h : shp n d = true) (hn : n ≤ 64) : SeqAt.shaped (toPy d) = true := by
  obtain ⟨a, b⟩ := shp_ok n d h
  unfold SeqAt.shaped
  rw [a, Bool.true_and]
  exact decide_eq_true (Nat.le_trans b hn)

/-! ### operators by values -/
abbrev D2 := D → D → Sto → R D
def rD (U : Wd) (g : D2) (W : WX) (σ : L2.St) : R2 := fun x y H Q => ∃ G S a b, RelS U G S H ∧ DV U G H a x ∧ DV U G H b y ∧ GoD U W σ G H (g a b S) Q
def OpD (X : Cx) (f : Value → Value → Sem Value) (g : D2) : Prop := ∀ W σ, OpR X f (rD (wd X) g W σ)
section
variable {X : Cx} {pos : Pos} {k : Nat}
theorem Room.u65 {A : Around} (hr : Room k A) : A.units + 65 < cLine := by have := hr.un; omega
theorem Room.u64 {A : Around} (hr : Room k A) : A.units + 64 < cLine := by have := hr.un; omega
theorem Room.u1 {A : Around} (hr : Room k A) : A.units + 1 < cLine := by have := hr.un; omega
def oEq : D2 := fun a b S => match a, b with
  | .int i, .int j => .ok (.bl (decide (i = j))) S
  | .str x, .str y => .ok (.bl (decide (x = y))) S
  | a, b => if shp 60 (rd S a) = true ∧ shp 60 (rd S b) = true then .ok (.bl (eqv (rd S a) (rd S b))) S else .bad
def oNe : D2 := fun a b S => match a, b with
  | .int i, .int j => .ok (.bl (!decide (i = j))) S
  | .str x, .str y => .ok (.bl (!decide (x = y))) S
  | a, b => if shp 60 (rd S a) = true ∧ shp 60 (rd S b) = true then .ok (.bl (!eqv (rd S a) (rd S b))) S else .bad
theorem dec_strL {x y : List Nat} : decide (V.str ⟨x.toArray⟩ = V.str ⟨y.toArray⟩) = decide (x = y) := by
  rw [decide_eq_decide]
  exact ⟨fun e => by injection e with e; injection e with e; simpa using congrArg Array.toList e, fun e => by rw [e]⟩
theorem dec_intL {x y : Int} : decide (V.int x = V.int y) = decide (x = y) := by
  rw [decide_eq_decide]
  exact ⟨fun e => by injection e, fun e => by rw [e]⟩
theorem od_eq (hr : Room k X.A) : OpD X (compareOp .Eq) oEq := fun W σ => OpR.imp (OpR.or (op_eqD (Room.u64 hr)) op_eq) fun x y H Q ⟨G, S, a, b, rs, qa, qb, g⟩ => by
  unfold oEq at g
  split at g
  · rename_i i j
    have qa : x = _ := qa
    have qb : y = _ := qb
    subst qa qb
    exact .inr ⟨rfl, by rw [dec_intL]; exact Go.ret g rs rfl⟩
  · rename_i u v
    have qa : x = _ := qa
    have qb : y = _ := qb
    subst qa qb
    exact .inr ⟨rfl, by rw [dec_strL]; exact Go.ret g rs rfl⟩
  · split at g
    · rename_i h
      refine .inl ⟨_, _, qa.dpr rs h.1, qb.dpr rs h.2, shaped_of h.1 (by decide), shaped_of h.2 (by decide), ?_⟩
      rw [eqv_py]
      exact Go.ret g rs rfl
    · exact g.elim
theorem od_ne (hr : Room k X.A) : OpD X (compareOp .NotEq) oNe := fun W σ => OpR.imp (OpR.or (op_neD (Room.u64 hr)) op_ne) fun x y H Q ⟨G, S, a, b, rs, qa, qb, g⟩ => by
  unfold oNe at g
  split at g
  · rename_i i j
    have qa : x = _ := qa
    have qb : y = _ := qb
    subst qa qb
    exact .inr ⟨rfl, by rw [dec_intL]; exact Go.ret g rs rfl⟩
  · rename_i u v
    have qa : x = _ := qa
    have qb : y = _ := qb
    subst qa qb
    exact .inr ⟨rfl, by rw [dec_strL]; exact Go.ret g rs rfl⟩
  · split at g
    · rename_i h
      refine .inl ⟨_, _, qa.dpr rs h.1, qb.dpr rs h.2, shaped_of h.1 (by decide), shaped_of h.2 (by decide), ?_⟩
      rw [eqv_py]
      exact Go.ret g rs rfl
    · exact g.elim

def isN : D → Bool
  | .non => true
  | _ => false
theorem isN_V {U : Wd} {G : Gh} {H : Hp} {a : D} {x : V} (qa : DV U G H a x) : decide (x = .non) = isN a := by
  cases a with
  | non => cases (show _ = _ from qa); rfl
  | bl b => cases (show _ = _ from qa); rfl
  | int i => cases (show _ = _ from qa); rfl
  | str s => cases (show _ = _ from qa); rfl
  | tup ds => obtain ⟨_, _, rfl, _⟩ := qa; rfl
  | lst ds => obtain ⟨_, _, rfl, _⟩ := qa; rfl
  | dct ks zs => obtain ⟨_, _, rfl, _⟩ := qa; rfl
  | dcn ks zs => obtain ⟨_, _, rfl, _⟩ := qa; rfl
  | ref n => obtain ⟨_, rfl⟩ := qa; rfl
  | arg ns => obtain ⟨_, rfl, _⟩ := qa; rfl
/-- is, of None and of truths -/
def oIs : D2 := fun a b S => match b with
  | .non => .ok (.bl (isN a)) S
  | .bl c => (match a with
    | .bl d => .ok (.bl (d == c)) S
    | _ => .bad)
  | _ => .bad
def oIsNot : D2 := fun a b S => match b with
  | .non => .ok (.bl (!isN a)) S
  | .bl c => (match a with
    | .bl d => .ok (.bl (!(d == c))) S
    | _ => .bad)
  | _ => .bad
theorem od_is : OpD X (compareOp .Is) oIs := fun W σ => OpR.imp (OpR.or op_isN op_is_bl) fun x y H Q ⟨G, S, a, b, rs, qa, qb, g⟩ => by
  cases b with
  | non => exact .inl ⟨qb, by rw [isN_V qa]; exact Go.ret g rs rfl⟩
  | bl c =>
    cases a with
    | bl d =>
      refine .inr ⟨d, c, qa, qb, ?_⟩
      have e : decide (d = c) = (d == c) := by cases d <;> cases c <;> rfl
      rw [e]; exact Go.ret g rs rfl
    | _ => exact g.elim
  | _ => exact g.elim
theorem od_isNot : OpD X (compareOp .IsNot) oIsNot := fun W σ => OpR.imp (OpR.or op_notN op_isnot_bl) fun x y H Q ⟨G, S, a, b, rs, qa, qb, g⟩ => by
  cases b with
  | non => exact .inl ⟨qb, by rw [isN_V qa]; exact Go.ret g rs rfl⟩
  | bl c =>
    cases a with
    | bl d =>
      refine .inr ⟨d, c, qa, qb, ?_⟩
      have e : decide (d = c) = (d == c) := by cases d <;> cases c <;> rfl
      rw [e]; exact Go.ret g rs rfl
    | _ => exact g.elim
  | _ => exact g.elim

/-! ### order -/
def cmpI (a b : Int) : Ordering := if a < b then .lt else if b < a then .gt else .eq
def cmpS : List Nat → List Nat → Ordering
  | [], [] => .eq
  | [], _ :: _ => .lt
  | _ :: _, [] => .gt
  | x :: xs, y :: ys => if Nat.blt x y = true then .lt else if Nat.blt y x = true then .gt else cmpS xs ys
mutual
def cmpv : Nat → D → D → Option Ordering
  | _, .int i, .int j => some (cmpI i j)
  | _, .str x, .str y => some (cmpS x y)
  | n + 1, .tup xs, .tup ys => cmpvs n xs ys
  | _, _, _ => none
def cmpvs : Nat → List D → List D → Option Ordering
  | _, [], [] => some .eq
  | _, [], _ :: _ => some .lt
  | _, _ :: _, [] => some .gt
  | n, x :: xs, y :: ys => if eqv x y = true then cmpvs n xs ys else if allc n xs ys = true then cmpv n x y else none
def allc : Nat → List D → List D → Bool
  | n, x :: xs, y :: ys => (eqv x y || (cmpv n x y).isSome) && allc n xs ys
  | _, _, _ => true
end
def opz : CmpOp → Ordering → Bool
  | .Lt, .lt => true
  | .Gt, .gt => true
  | .LtE, .lt => true
  | .LtE, .eq => true
  | .GtE, .gt => true
  | .GtE, .eq => true
  | _, _ => false
theorem cmpS_lt : ∀ x y : List Nat, decide (x < y) = (cmpS x y == .lt)
  | [], [] => by simp [cmpS]
  | [], y :: ys => by simp [cmpS]
  | x :: xs, [] => by simp [cmpS]
  | x :: xs, y :: ys => by
    have ih := cmpS_lt xs ys
    unfold cmpS
    have e : decide (x :: xs < y :: ys) = decide (x < y ∨ x = y ∧ xs < ys) := by
      rw [decide_eq_decide]; exact List.cons_lt_cons_iff
    rw [e]
    by_cases h1 : x < y
    · have : Nat.blt x y = true := Nat.ble_eq_true_of_le h1
      rw [if_pos this]; simp [h1]
    · have b1 : ¬ Nat.blt x y = true := fun z => h1 (Nat.le_of_ble_eq_true z)
      rw [if_neg b1]
      by_cases h2 : y < x
      · have : Nat.blt y x = true := Nat.ble_eq_true_of_le h2
        rw [if_pos this]
        have : ¬ (x < y ∨ x = y ∧ xs < ys) := by omega
        rw [decide_eq_false this]; rfl
      · have b2 : ¬ Nat.blt y x = true := fun z => h2 (Nat.le_of_ble_eq_true z)
        rw [if_neg b2]
        have exy : x = y := by omega
        subst exy
        rw [← ih]
        simp
theorem cmpS_swap : ∀ x y : List Nat, cmpS y x = (cmpS x y).swap
  | [], [] => rfl
  | [], _ :: _ => rfl
  | _ :: _, [] => rfl
  | x :: xs, y :: ys => by
    unfold cmpS
    by_cases h1 : Nat.blt x y = true
    · have h2 : ¬ Nat.blt y x = true := fun z => by
        have a := Nat.le_of_ble_eq_true h1; have b := Nat.le_of_ble_eq_true z; omega
      rw [if_pos h1, if_neg h2, if_pos h1]; rfl
    · by_cases h2 : Nat.blt y x = true
      · rw [if_pos h2, if_neg h1, if_pos h2]; rfl
      · rw [if_neg h2, if_neg h1, if_neg h1, if_neg h2, cmpS_swap xs ys]
theorem rc_int {op : CmpOp} (ho : op = .Lt ∨ op = .LtE ∨ op = .Gt ∨ op = .GtE) {A : Around} {s : Shared} (a b : Int) (t u : Tok) : Ob.RcOp op A s (.int a t) (.int b u) (opz op (cmpI a b)) := by
  have key : ∀ (c : Bool), c = opz op (cmpI a b) → Ob.RcOp op A s (.int a t) (.int b u) c → Ob.RcOp op A s (.int a t) (.int b u) (opz op (cmpI a b)) := fun c e h => by rw [← e]; exact h
  unfold cmpI at *
  rcases ho with rfl | rfl | rfl | rfl
  · exact key _ (by by_cases h1 : a < b <;> by_cases h2 : b < a <;> simp [h1, h2, opz]) (Ob.RcOp.lt_int a b t u)
  · exact key _ (by by_cases h1 : a < b <;> by_cases h2 : b < a <;> simp [h1, h2, opz] <;> omega) (Ob.RcOp.le_int a b t u)
  · exact key _ (by by_cases h1 : a < b <;> by_cases h2 : b < a <;> simp [h1, h2, opz] <;> omega) (Ob.RcOp.gt_int a b t u)
  · exact key _ (by by_cases h1 : a < b <;> by_cases h2 : b < a <;> simp [h1, h2, opz] <;> omega) (Ob.RcOp.ge_int a b t u)
theorem rc_str {op : CmpOp} (ho : op = .Lt ∨ op = .LtE ∨ op = .Gt ∨ op = .GtE) {A : Around} {s : Shared} (x y : List Nat) (t u : Tok) : Ob.RcOp op A s (.str ⟨x.toArray⟩ t) (.str ⟨y.toArray⟩ u) (opz op (cmpS x y)) := by
  intro prog w E Q h
  have e1 := cmpS_lt x y
  have e2 := cmpS_lt y x
  rw [cmpS_swap x y] at e2
  have go : ∀ (c : Bool), c = opz op (cmpS x y) → Q (.bool c) s := fun c e => by rw [e]; exact h
  rcases ho with rfl | rfl | rfl | rfl
  · exact PyProof.Rows.lt_str (x := ⟨x.toArray⟩) (y := ⟨y.toArray⟩) (go _ (by show decide (x < y) = _; rw [e1]; cases cmpS x y <;> rfl))
  · exact PySem.P.le_str (x := ⟨x.toArray⟩) (y := ⟨y.toArray⟩) (go _ (by show (!decide (y < x)) = _; rw [e2]; cases cmpS x y <;> rfl))
  · exact PySem.P.gt_str (x := ⟨x.toArray⟩) (y := ⟨y.toArray⟩) (go _ (by show decide (y < x) = _; rw [e2]; cases cmpS x y <;> rfl))
  · exact PySem.P.ge_str (x := ⟨x.toArray⟩) (y := ⟨y.toArray⟩) (go _ (by show (!decide (x < y)) = _; rw [e1]; cases cmpS x y <;> rfl))
end
end Z

/-! Z3b: order by both layers. -/
namespace Z
open PySem PySem.Spec PyProof.Rows L2
section
variable {X : Cx} {pos : Pos} {k : Nat}
/-- a value, read at both layers -/
theorem DV.eqAt {pins : List (Addr × Obj)} {σ : L2.St} {H : Hp} {s : Shared} {G : Gh} {a b : D} {x y : V} {u v : Value} {n : Nat} {A : Around} (I : Inv X pins σ H s) (ha : shp n a = true) (hb : shp n b = true) (qa : DV (wd X) G H a x) (qb : DV (wd X) G H b y)
    (ru : RelV x u) (rv : RelV y v) (hu : A.units + n < cLine) : SeqAt.EqAt A s u v (eqv a b) := by
  obtain ⟨as, r1⟩ := Dp.reads I _ x u (qa.dp ha) ru
  obtain ⟨bs, r2⟩ := Dp.reads I _ y v (qb.dp hb) rv
  obtain ⟨c1, d1⟩ := shp_ok n a ha
  obtain ⟨c2, d2⟩ := shp_ok n b hb
  rw [← eqv_py]
  exact SeqAt.eqAt_reads _ _ A s u v as bs r1 r2 c1 c2 (by have := Nat.min_le_left (toPy a).depth (toPy b).depth; omega)
theorem shps_at {n : Nat} : ∀ {ds : List D} {j : Nat} {d : D}, shps (n + 1) ds = true → ds[j]? = some d → shp n d = true
  | [], _, _, _, h => by simp at h
  | e :: ds, 0, d, h, hj => by
    have h : (shp n e && shps (n + 1) ds) = true := by simpa [shps] using h
    simp at hj; subst hj
    exact (Bool.and_eq_true_iff.mp h).1
  | e :: ds, j + 1, d, h, hj => by
    have h : (shp n e && shps (n + 1) ds) = true := by simpa [shps] using h
    exact shps_at (ds := ds) (Bool.and_eq_true_iff.mp h).2 (by simpa using hj)
theorem DVs.at {U : Wd} {G : Gh} {H : Hp} : ∀ {ds : List D} {vs : List V} {j : Nat} {d : D}, DVs U G H ds vs → ds[j]? = some d → ∃ v, vs[j]? = some v ∧ DV U G H d v
  | [], _, _, _, _, h => by simp at h
  | e :: ds, _, 0, d, ⟨v, r, e1, h1, h2⟩, hj => by subst e1; simp at hj; subst hj; exact ⟨v, rfl, h1⟩
  | e :: ds, _, j + 1, d, ⟨v, r, e1, h1, h2⟩, hj => by
    subst e1
    obtain ⟨w, a, b⟩ := DVs.at (ds := ds) (j := j) (d := d) h2 (by simpa using hj)
    exact ⟨w, by simpa using a, b⟩
theorem lex_cmp {n : Nat} {op : CmpOp} (ho : op = .Lt ∨ op = .LtE ∨ op = .Gt ∨ op = .GtE) (X0 Y0 : List D) (z : Bool) (hz : ∀ o : Ordering, (X0.length < Y0.length → o = .lt) → (X0.length = Y0.length → o = .eq) → (Y0.length < X0.length → o = .gt) → z = opz op o) :
    ∀ (xs ys : List D) (i : Nat) (o : Ordering), X0.drop i = xs → Y0.drop i = ys → i ≤ X0.length → i ≤ Y0.length → cmpvs n xs ys = some o →
      Ob.lexAt (fun j => eqv (X0.getD j .non) (Y0.getD j .non)) (fun j => opz op ((cmpv n (X0.getD j .non) (Y0.getD j .non)).getD .eq)) z i (min xs.length ys.length) = opz op o
  | [], [], i, o, hx, hy, lx, ly, h => by
    have a := List.drop_eq_nil_iff.mp hx
    have b := List.drop_eq_nil_iff.mp hy
    have h : some Ordering.eq = some o := by simpa [cmpvs] using h
    cases h
    show z = _
    exact hz .eq (fun q => by omega) (fun _ => rfl) (fun q => by omega)
  | [], y :: ys, i, o, hx, hy, lx, ly, h => by
    have a := List.drop_eq_nil_iff.mp hx
    have b : i < Y0.length := by
      rcases Nat.lt_or_ge i Y0.length with q | q
      · exact q
      · rw [List.drop_of_length_le q] at hy; cases hy
    have h : some Ordering.lt = some o := by simpa [cmpvs] using h
    cases h
    show z = _
    exact hz .lt (fun _ => rfl) (fun q => by omega) (fun q => by omega)
  | x :: xs, [], i, o, hx, hy, lx, ly, h => by
    have a := List.drop_eq_nil_iff.mp hy
    have b : i < X0.length := by
      rcases Nat.lt_or_ge i X0.length with q | q
      · exact q
      · rw [List.drop_of_length_le q] at hx; cases hx
    have h : some Ordering.gt = some o := by simpa [cmpvs] using h
    cases h
    show z = _
    exact hz .gt (fun q => by omega) (fun q => by omega) (fun _ => rfl)
  | x :: xs, y :: ys, i, o, hx, hy, lx, ly, h => by
    have bx : i < X0.length := by
      rcases Nat.lt_or_ge i X0.length with q | q
      · exact q
      · rw [List.drop_of_length_le q] at hx; cases hx
    have b : i < Y0.length := by
      rcases Nat.lt_or_ge i Y0.length with q | q
      · exact q
      · rw [List.drop_of_length_le q] at hy; cases hy
    rw [List.drop_eq_getElem_cons bx] at hx
    rw [List.drop_eq_getElem_cons b] at hy
    injection hx with hx1 hx2
    injection hy with hy1 hy2
    have gx : X0.getD i .non = x := by simp [bx, hx1]
    have gy : Y0.getD i .non = y := by simp [b, hy1]
    rw [show min (x :: xs).length (y :: ys).length = min xs.length ys.length + 1 by simp, Ob.lexAt_succ]
    rw [gx, gy]
    by_cases e : eqv x y = true
    · rw [if_pos e]
      have h : cmpvs n xs ys = some o := by rw [cmpvs, if_pos e] at h; exact h
      exact lex_cmp ho X0 Y0 z hz xs ys (i + 1) o hx2 hy2 bx b h
    · rw [if_neg e]
      rw [cmpvs, if_neg e] at h
      by_cases c : allc n xs ys = true
      · rw [if_pos c] at h; rw [h]; rfl
      · rw [if_neg c] at h; cases h
theorem allc_at {n : Nat} : ∀ {xs ys : List D} {o : Ordering}, cmpvs n xs ys = some o → ∀ (j : Nat) x y, xs[j]? = some x → ys[j]? = some y → eqv x y = true ∨ (cmpv n x y).isSome = true
  | [], _, _, _, j, x, y, hx, _ => by simp at hx
  | _ :: _, [], _, _, j, x, y, _, hy => by simp at hy
  | x0 :: xs, y0 :: ys, o, h, j, x, y, hx, hy => by
    have all : ∀ {xs ys : List D}, allc n xs ys = true → ∀ (j : Nat) x y, xs[j]? = some x → ys[j]? = some y → eqv x y = true ∨ (cmpv n x y).isSome = true := by
      intro xs
      induction xs with
      | nil => intro ys _ j x y hx; simp at hx
      | cons a as ih =>
        intro ys hc j x y hx hy
        cases ys with
        | nil => simp at hy
        | cons b bs =>
          have hc : ((eqv a b || (cmpv n a b).isSome) && allc n as bs) = true := by simpa [allc] using hc
          obtain ⟨h1, h2⟩ := Bool.and_eq_true_iff.mp hc
          cases j with
          | zero => simp at hx hy; subst hx hy; exact Bool.or_eq_true_iff.mp h1
          | succ j => exact ih h2 j x y (by simpa using hx) (by simpa using hy)
    by_cases e : eqv x0 y0 = true
    · rw [cmpvs, if_pos e] at h
      cases j with
      | zero => simp at hx hy; subst hx hy; exact .inl e
      | succ j => exact allc_at h j x y (by simpa using hx) (by simpa using hy)
    · rw [cmpvs, if_neg e] at h
      by_cases c : allc n xs ys = true
      · rw [if_pos c] at h
        cases j with
        | zero => simp at hx hy; subst hx hy; exact .inr (by rw [h]; rfl)
        | succ j => exact all c j x y (by simpa using hx) (by simpa using hy)
      · rw [if_neg c] at h; cases h
theorem cmpv_tup {n : Nat} {a b : D} {o : Ordering} (h : cmpv n a b = some o) : (∃ i j, a = .int i ∧ b = .int j ∧ o = cmpI i j) ∨ (∃ x y, a = .str x ∧ b = .str y ∧ o = cmpS x y) ∨ ∃ m xs ys, n = m + 1 ∧ a = .tup xs ∧ b = .tup ys ∧ cmpvs m xs ys = some o := by
  unfold cmpv at h
  split at h
  · exact .inl ⟨_, _, rfl, rfl, (Option.some.inj h).symm⟩
  · exact .inr (.inl ⟨_, _, rfl, rfl, (Option.some.inj h).symm⟩)
  · exact .inr (.inr ⟨_, _, _, rfl, rfl, rfl, h⟩)
  · cases h
def RcC (X : Cx) (s : Shared) (G : Gh) (H : Hp) (op : CmpOp) (n : Nat) : Prop := ∀ (a b : D) (o : Ordering) (x y : V) (u v : Value) (A : Around), cmpv n a b = some o → shp n a = true → shp n b = true → DV (wd X) G H a x → DV (wd X) G H b y → RelV x u → RelV y v → A.units + n < cLine → Ob.RcOp op A s u v (opz op o)
theorem rc_step {pins : List (Addr × Obj)} {σ : L2.St} {H : Hp} {s : Shared} {G : Gh} (I : Inv X pins σ H s) {op : CmpOp} (ho : op = .Lt ∨ op = .LtE ∨ op = .Gt ∨ op = .GtE) {n : Nat} (ih : RcC X s G H op n) {xs ys : List D} {o : Ordering} {x y : V} {u v : Value} {A : Around}
    (h : cmpvs n xs ys = some o) (sa : shps (n + 1) xs = true) (sb : shps (n + 1) ys = true) (qa : DV (wd X) G H (.tup xs) x) (qb : DV (wd X) G H (.tup ys) y) (ru : RelV x u) (rv : RelV y v) (hu : A.units + (n + 1) < cLine) : Ob.RcOp op A s u v (opz op o) := by
    obtain ⟨p, vs, e1, t1, q1⟩ := qa
    obtain ⟨q, ws, e2, t2, q2⟩ := qb
    subst e1 e2
    cases (show u = Value.ref p from ru)
    cases (show v = Value.ref q from rv)
    obtain ⟨its, r1, p1, _⟩ := I.tuple t1.sq
    obtain ⟨its2, r2, p2, _⟩ := I.tuple t2.sq
    have l1 : its.toArray.size = xs.length := by rw [List.size_toArray, ← r1.length, q1.length]
    have l2 : its2.toArray.size = ys.length := by rw [List.size_toArray, ← r2.length, q2.length]
    have at1 : ∀ {ds : List D} {ws : List V} {us : List Value}, DVs (wd X) G H ds ws → Vals ws us → ∀ j (h1 : j < us.toArray.size), ∃ d w, ds[j]? = some d ∧ DV (wd X) G H d w ∧ RelV w us.toArray[j] := fun {ds ws us} q r j h1 => by
      have h2 : j < ds.length := by rw [← q.length, r.length]; simpa using h1
      obtain ⟨w, hw, dw⟩ := q.at (List.getElem?_eq_getElem h2)
      obtain ⟨u, hu, ru⟩ := r.get hw
      refine ⟨_, w, List.getElem?_eq_getElem h2, dw, ?_⟩
      have h1' : j < us.length := by simpa using h1
      have : us[j]? = some us[j] := List.getElem?_eq_getElem h1'
      rw [this] at hu; cases hu
      simpa using ru
    have hA : A.in1.units + n < cLine := by show A.units + 1 + n < cLine; omega
    have he : ∀ j (h1 : j < its.toArray.size) (h2 : j < its2.toArray.size), SeqAt.EqAt A.in1 s its.toArray[j] its2.toArray[j] (eqv (xs.getD j .non) (ys.getD j .non)) := fun j h1 h2 => by
      obtain ⟨d, w, a1, a2, a3⟩ := at1 q1 r1 j h1
      obtain ⟨d', w', b1, b2, b3⟩ := at1 q2 r2 j h2
      rw [show xs.getD j .non = d by simp [a1], show ys.getD j .non = d' by simp [b1]]
      exact DV.eqAt I (shps_at sa a1) (shps_at sb b1) a2 b2 a3 b3 hA
    have hr : ∀ j (h1 : j < its.toArray.size) (h2 : j < its2.toArray.size), eqv (xs.getD j .non) (ys.getD j .non) = false → Ob.RcOp op A.in1 s its.toArray[j] its2.toArray[j] (opz op ((cmpv n (xs.getD j .non) (ys.getD j .non)).getD .eq)) := fun j h1 h2 hne => by
      obtain ⟨d, w, a1, a2, a3⟩ := at1 q1 r1 j h1
      obtain ⟨d', w', b1, b2, b3⟩ := at1 q2 r2 j h2
      rw [show xs.getD j .non = d by simp [a1], show ys.getD j .non = d' by simp [b1]] at hne ⊢
      rcases allc_at h j d d' a1 b1 with z | z
      · rw [hne] at z; cases z
      · obtain ⟨o', ho'⟩ := Option.isSome_iff_exists.mp z
        rw [ho']
        exact ih d d' o' w w' _ _ A.in1 ho' (shps_at sa a1) (shps_at sb b1) a2 b2 a3 b3 hA
    have hu0 : A.units < cLine := by omega
    rcases ho with rfl | rfl | rfl | rfl
    · have R := Ob.RcOp.tuples_lt (A := A) (s := s) p1 p2 hu0 he hr
      rw [l1, l2] at R
      rw [← lex_cmp (n := n) (op := .Lt) (.inl rfl) xs ys (decide (xs.length < ys.length)) (fun o h1 h2 h3 => by
        rcases Nat.lt_trichotomy xs.length ys.length with q | q | q
        · rw [h1 q, decide_eq_true q]; rfl
        · rw [h2 q, decide_eq_false (by omega)]; rfl
        · rw [h3 q, decide_eq_false (by omega)]; rfl) xs ys 0 o rfl rfl (Nat.zero_le _) (Nat.zero_le _) h]
      exact R
    · have R := Ob.RcOp.tuples_le (A := A) (s := s) p1 p2 hu0 he hr
      rw [l1, l2] at R
      rw [← lex_cmp (n := n) (op := .LtE) (.inr (.inl rfl)) xs ys (decide (xs.length ≤ ys.length)) (fun o h1 h2 h3 => by
        rcases Nat.lt_trichotomy xs.length ys.length with q | q | q
        · rw [h1 q, decide_eq_true (by omega)]; rfl
        · rw [h2 q, decide_eq_true (by omega)]; rfl
        · rw [h3 q, decide_eq_false (by omega)]; rfl) xs ys 0 o rfl rfl (Nat.zero_le _) (Nat.zero_le _) h]
      exact R
    · have R := Ob.RcOp.tuples_gt (A := A) (s := s) p1 p2 hu0 he hr
      rw [l1, l2] at R
      rw [← lex_cmp (n := n) (op := .Gt) (.inr (.inr (.inl rfl))) xs ys (decide (ys.length < xs.length)) (fun o h1 h2 h3 => by
        rcases Nat.lt_trichotomy xs.length ys.length with q | q | q
        · rw [h1 q, decide_eq_false (by omega)]; rfl
        · rw [h2 q, decide_eq_false (by omega)]; rfl
        · rw [h3 q, decide_eq_true q]; rfl) xs ys 0 o rfl rfl (Nat.zero_le _) (Nat.zero_le _) h]
      exact R
    · have R := Ob.RcOp.tuples_ge (A := A) (s := s) p1 p2 hu0 he hr
      rw [l1, l2] at R
      rw [← lex_cmp (n := n) (op := .GtE) (.inr (.inr (.inr rfl))) xs ys (decide (ys.length ≤ xs.length)) (fun o h1 h2 h3 => by
        rcases Nat.lt_trichotomy xs.length ys.length with q | q | q
        · rw [h1 q, decide_eq_false (by omega)]; rfl
        · rw [h2 q, decide_eq_true (by omega)]; rfl
        · rw [h3 q, decide_eq_true (by omega)]; rfl) xs ys 0 o rfl rfl (Nat.zero_le _) (Nat.zero_le _) h]
      exact R
theorem rc_cmp {pins : List (Addr × Obj)} {σ : L2.St} {H : Hp} {s : Shared} {G : Gh} (I : Inv X pins σ H s) {op : CmpOp} (ho : op = .Lt ∨ op = .LtE ∨ op = .Gt ∨ op = .GtE) : ∀ n : Nat, RcC X s G H op n := by
  intro n
  induction n with
  | zero =>
    intro a b o x y u v A h sa sb qa qb ru rv hu
    rcases cmpv_tup h with ⟨i, j, rfl, rfl, rfl⟩ | ⟨i, j, rfl, rfl, rfl⟩ | ⟨m, xs, ys, e, _⟩
    · cases (show _ = _ from qa); cases (show _ = _ from qb)
      obtain ⟨t, rfl⟩ := ru
      obtain ⟨t', rfl⟩ := rv
      exact rc_int ho i j t t'
    · cases (show _ = _ from qa); cases (show _ = _ from qb)
      obtain ⟨t, rfl⟩ := ru
      obtain ⟨t', rfl⟩ := rv
      exact rc_str ho i j t t'
    · omega
  | succ n ih =>
    intro a b o x y u v A h sa sb qa qb ru rv hu
    rcases cmpv_tup h with ⟨i, j, rfl, rfl, rfl⟩ | ⟨i, j, rfl, rfl, rfl⟩ | ⟨m, xs, ys, e, rfl, rfl, hc⟩
    · cases (show _ = _ from qa); cases (show _ = _ from qb)
      obtain ⟨t, rfl⟩ := ru
      obtain ⟨t', rfl⟩ := rv
      exact rc_int ho i j t t'
    · cases (show _ = _ from qa); cases (show _ = _ from qb)
      obtain ⟨t, rfl⟩ := ru
      obtain ⟨t', rfl⟩ := rv
      exact rc_str ho i j t t'
    · have e : n = m := by omega
      subst e
      exact rc_step I ho ih hc (by simpa [shp] using sa) (by simpa [shp] using sb) qa qb ru rv hu
/-- <, <=, >, >= -/
def oCmp (op : CmpOp) : D2 := fun a b S => if shp 60 a = true ∧ shp 60 b = true then (match cmpv 60 a b with
  | some o => .ok (.bl (opz op o)) S
  | none => .bad) else .bad
theorem od_cmp (hr : Room k X.A) {op : CmpOp} (ho : op = .Lt ∨ op = .LtE ∨ op = .Gt ∨ op = .GtE) : OpD X (compareOp op) (oCmp op) := fun W σ => by
  intro pins s σ' H x y v u Q I rx ry h
  obtain ⟨G, S, a, b, rs, qa, qb, g⟩ := h
  unfold oCmp at g
  split at g
  · rename_i hs
    split at g
    · rename_i o e
      have z := rc_cmp (G := G) I ho 60 a b o x y v u X.A e hs.1 hs.2 qa qb rx ry (by have := hr.un; omega)
      have q : EP X pins σ' Q (.bool (opz op o)) s := ⟨.bl _, H, I, rfl, Go.ret g rs rfl⟩
      rcases ho with rfl | rfl | rfl | rfl
      · exact z X.prog X.w X.xe _ q
      · exact z X.prog X.w X.xe _ q
      · exact z X.prog X.w X.xe _ q
      · exact z X.prog X.w X.xe _ q
    · exact g.elim
  · exact g.elim
end
end Z

/-! Z4: subscripts, membership, slices, arithmetic; comparisons, tests, choices. -/
namespace Z
open PySem PySem.Spec PyProof.Rows L2

/-! ### dicts read -/
def dfind : List D → List D → D → Option D
  | k' :: ks, z :: zs, k => if eqv k' k = true then some z else dfind ks zs k
  | _, _, _ => none
theorem keyOf_eqv {a b : D} {x y : Key} (ha : keyOf a = some x) (hb : keyOf b = some y) : eqv a b = decide (x = y) := by
  cases a <;> cases b <;> simp only [keyOf, Option.some.injEq] at ha hb <;> first | cases ha; done | cases hb; done | skip
  all_goals try (simp at ha; done)
  all_goals try (simp at hb; done)
  · subst ha hb; simp only [eqv]; rw [decide_eq_decide]; exact ⟨fun e => by rw [e], fun e => Sum.inl.inj e⟩
  · subst ha hb; simp [eqv]
  · subst ha hb; simp [eqv]
  · subst ha hb; simp only [eqv]; rw [decide_eq_decide]
    exact ⟨fun e => by rw [e], fun e => by have := Sum.inr.inj e; injection this with z; simpa using congrArg Array.toList z⟩
theorem keyOf_V {U : Wd} {G : Gh} {H : Hp} {k : D} {kk : Key} {v : V} (h : keyOf k = some kk) (q : DV U G H k v) : v = kV kk := by
  cases k <;> simp only [keyOf, Option.some.injEq] at h <;> first | cases h; done | skip
  · subst h; exact q
  · subst h; exact q
theorem dfind_val {U : Wd} {G : Gh} {H : Hp} {k : D} {kk : Key} (hk : keyOf k = some kk) : ∀ {ks zs : List D} {kvs : List (Key × V)}, ks.map keyOf = kvs.map (fun p => some p.1) → DVs U G H zs (kvs.map (·.2)) →
    (∀ z, dfind ks zs k = some z → ∃ v, valV kvs kk = some v ∧ DV U G H z v) ∧ (dfind ks zs k = none → valV kvs kk = none)
  | [], zs, kvs, h1, h2 => by
    cases kvs with
    | nil => exact ⟨fun z h => by cases zs <;> simp [dfind] at h, fun _ => rfl⟩
    | cons p r => simp at h1
  | k' :: ks, zs, kvs, h1, h2 => by
    cases kvs with
    | nil => simp at h1
    | cons p r =>
      have h1' : keyOf k' = some p.1 ∧ ks.map keyOf = r.map (fun p => some p.1) := by simpa using h1
      cases zs with
      | nil => have : p.2 :: r.map (·.2) = [] := h2; cases this
      | cons z zs =>
        obtain ⟨v, rr, e, q1, q2⟩ := h2
        have e : p.2 :: r.map (·.2) = v :: rr := e
        injection e with e1 e2
        subst e1 e2
        have ih := dfind_val hk h1'.2 q2
        have hq := keyOf_eqv h1'.1 hk
        unfold dfind
        by_cases c : p.1 = kk
        · rw [hq, decide_eq_true c]
          rw [valV_pos c]
          exact ⟨fun z' h => ⟨_, rfl, by cases h; exact q1⟩, fun h => by cases h⟩
        · rw [hq, decide_eq_false c]
          rw [valV_neg c]
          exact ih
/-- the key of a dict's question -/
theorem dct_get {U : Wd} {G : Gh} {H : Hp} {ks zs : List D} {k : D} {kk : Key} {y : V} {a : Addr} {kvs : List (Key × V)} (e : H a = some (.dK kvs)) (h1 : ks.map keyOf = kvs.map (fun p => some p.1)) (h2 : DVs U G H zs (kvs.map (·.2))) (hk : keyOf k = some kk) (qk : DV U G H k y) :
    (∀ z, dfind ks zs k = some z → ∃ v, DGet H a y (some v) ∧ DV U G H z v) ∧ (dfind ks zs k = none → DGet H a y none) := by
  obtain ⟨a1, a2⟩ := dfind_val hk h1 h2
  have ey := keyOf_V hk qk
  subst ey
  refine ⟨fun z hz => ?_, fun hn => ?_⟩
  · obtain ⟨v, hv, q⟩ := a1 z hz
    refine ⟨v, ?_, q⟩
    rw [← hv]; exact DGet.k e
  · rw [← a2 hn]; exact DGet.k e
/-- what a value reads as, where it lies -/
theorem rd_dct {U : Wd} {G : Gh} {S : Sto} {H : Hp} (rs : RelS U G S H) {d : D} {v : V} {ks zs : List D} (h : rd S d = .dct ks zs) (q : DV U G H d v) : ∃ a kvs, v = .ref a ∧ H a = some (.dK kvs) ∧ ks.map keyOf = kvs.map (fun p => some p.1) ∧ DVs U G H zs (kvs.map (·.2)) := by
  cases d with
  | ref n =>
    obtain ⟨hn, rfl⟩ := q
    unfold rd at h
    dsimp only at h
    cases e : S.get n with
    | none => rw [e] at h; cases h
    | some o =>
      rw [e] at h
      cases o with
      | lst ds => cases h
      | dct ks' zs' =>
        cases h
        obtain ⟨kvs, e1, h1, h2⟩ := rs.at_ n _ e
        exact ⟨_, kvs, rfl, e1, h1, h2⟩
      | dcn ks' zs' => cases h
      | bag b => cases h
      | tbl _ => cases h
      | ins c fs => cases h
  | dct ks' zs' =>
    cases h
    obtain ⟨a, kvs, rfl, t, h1, h2⟩ := q
    exact ⟨a, kvs, rfl, t.1, h1, h2⟩
  | _ => cases h
theorem rd_lstR {U : Wd} {G : Gh} {S : Sto} {H : Hp} (rs : RelS U G S H) {d : D} {v : V} {ds : List D} (h : rd S d = .lst ds) (q : DV U G H d v) : ∃ a vs, v = .ref a ∧ Rd H a (.lst vs) ∧ DVs U G H ds vs := by
  cases d with
  | ref n =>
    obtain ⟨hn, rfl⟩ := q
    unfold rd at h
    dsimp only at h
    cases e : S.get n with
    | none => rw [e] at h; cases h
    | some o =>
      rw [e] at h
      cases o with
      | lst ds' =>
        cases h
        obtain ⟨vs, e1, h2⟩ := rs.at_ n _ e
        exact ⟨_, vs, rfl, .inl e1, h2⟩
      | bag b =>
        cases h
        obtain ⟨c, e1, q⟩ := rs.at_ n _ e
        exact ⟨_, _, rfl, .inl e1, bag_vs q⟩
      | dct ks' zs' => cases h
      | dcn ks' zs' => cases h
      | tbl _ => cases h
      | ins c fs => cases h
  | lst ds' =>
    cases h
    obtain ⟨a, vs, rfl, t, h2⟩ := q
    exact ⟨a, vs, rfl, t.1, h2⟩
  | _ => cases h
theorem rd_lst {U : Wd} {G : Gh} {S : Sto} {H : Hp} (rs : RelS U G S H) {d : D} {v : V} {ds : List D} (h : rd S d = .lst ds) (q : DV U G H d v) : ∃ a vs, v = .ref a ∧ SqL U.K H a vs ∧ DVs U G H ds vs :=
  let ⟨a, vs, e, r, q⟩ := rd_lstR rs h q; ⟨a, vs, e, .inl r, q⟩
theorem rd_tup {U : Wd} {G : Gh} {S : Sto} {H : Hp} {d : D} {v : V} {ds : List D} (h : rd S d = .tup ds) (q : DV U G H d v) : ∃ a vs, v = .ref a ∧ SqT U.K H a vs ∧ DVs U G H ds vs := by
  cases d with
  | ref n =>
    unfold rd at h
    dsimp only at h
    cases e : S.get n with
    | none => rw [e] at h; cases h
    | some o => rw [e] at h; cases o <;> cases h
  | tup ds' =>
    cases h
    obtain ⟨a, vs, rfl, t, h2⟩ := q
    exact ⟨a, vs, rfl, t.sq, h2⟩
  | _ => cases h
def isAtom : D → Bool
  | .non | .bl _ | .int _ | .str _ => true
  | _ => false
theorem rd_atom {U : Wd} {G : Gh} {S : Sto} {H : Hp} {d e : D} {v : V} (h : rd S d = e) (he : isAtom e = true) (q : DV U G H d v) : DV U G H e v := by
  cases d with
  | ref n =>
    subst h
    unfold rd at he
    dsimp only at he
    cases z : S.get n with
    | none => rw [z] at he; cases he
    | some o => rw [z] at he; cases o <;> cases he
  | _ => subst h; exact q
theorem DVs.atI {U : Wd} {G : Gh} {H : Hp} {ds : List D} {vs : List V} {i : Int} {d : D} (q : DVs U G H ds vs) (h : atI ds i = some d) : ∃ v, atI vs i = some v ∧ DV U G H d v := by
  unfold L2.atI at h ⊢
  rw [q.length]
  cases e : ixN ds.length i with
  | none => rw [e] at h; cases h
  | some j => rw [e] at h; exact q.at h

section
variable {X : Cx} {pos : Pos} {k : Nat}
/-! ### subscripts -/
def oIx : D2 := fun a i S => match rd S a with
  | .tup ds => (match i with
    | .int k => (match atI ds k with | some d => .ok d S | none => .bad)
    | _ => .bad)
  | .lst ds => (match i with
    | .int k => (match atI ds k with | some d => .ok d S | none => .bad)
    | _ => .bad)
  | .str l => (match i with
    | .int k => if fits l.length = true then (match atI l k with | some c => .ok (.str [c]) S | none => .bad) else .bad
    | _ => .bad)
  | .dct ks zs => (match keyOf i with
    | some _ => (match dfind ks zs i with | some d => .ok d S | none => .bad)
    | none => .bad)
  | _ => .bad
theorem ix_dict (hu : X.A.units + 1 < cLine) : IxR X (fun x y H Q => ∃ a v, x = .ref a ∧ DGet H a y (some v) ∧ Q v H) := by
  intro value slice pins s σ H x y v u Q I rx ry ⟨a, z, ex, g, q⟩ hs
  subst ex
  cases rx
  exact tail_any (dict_typeIs I g) PySem.F.slot_dict_getitem.lookup (d_getItem hu I g ry fun w' s3 I3 rw' => ⟨z, H, I3, rw', q⟩) hs
theorem od_ix (hr : Room k X.A) : ∀ W σ, IxR X (rD (wd X) oIx W σ) := fun W σ => by
  intro value slice pins s σ' H x y v u Q I rx ry ⟨G, S, a, i, rs, qa, qi, g⟩ hs
  unfold oIx at g
  split at g
  · rename_i ds e
    split at g
    · rename_i j
      split at g
      · rename_i d hd
        obtain ⟨p, vs, rfl, t, q⟩ := rd_tup e qa
        obtain ⟨w, hw, dw⟩ := q.atI hd
        cases (show _ = _ from qi)
        exact ix_tup value slice pins s σ' H _ _ v u Q I rx ry ⟨p, vs, j, w, rfl, rfl, t, hw, Go.ret g rs dw⟩ hs
      · exact g.elim
    · exact g.elim
  · rename_i ds e
    split at g
    · rename_i j
      split at g
      · rename_i d hd
        obtain ⟨p, vs, rfl, t, q⟩ := rd_lst rs e qa
        obtain ⟨w, hw, dw⟩ := q.atI hd
        cases (show _ = _ from qi)
        exact ix_list value slice pins s σ' H _ _ v u Q I rx ry ⟨p, vs, j, w, rfl, rfl, t, hw, Go.ret g rs dw⟩ hs
      · exact g.elim
    · exact g.elim
  · rename_i l e
    split at g
    · rename_i j
      split at g
      · rename_i hf
        split at g
        · rename_i c hc
          cases (show _ = _ from rd_atom e rfl qa)
          cases (show _ = _ from qi)
          exact ix_str value slice pins s σ' H _ _ v u Q I rx ry ⟨_, j, c, rfl, rfl, by simpa [Str.length] using fits_le hf, by simpa using hc, Go.ret g rs rfl⟩ hs
        · exact g.elim
      · exact g.elim
    · exact g.elim
  · rename_i ks zs e
    split at g
    · rename_i kk hk
      split at g
      · rename_i d hd
        obtain ⟨p, kvs, rfl, hH, h1, h2⟩ := rd_dct rs e qa
        obtain ⟨w, dg, dw⟩ := (dct_get hH h1 h2 hk qi).1 d hd
        exact ix_dict (Room.u1 hr) value slice pins s σ' H _ _ v u Q I rx ry ⟨p, w, rfl, dg, Go.ret g rs dw⟩ hs
      · exact g.elim
    · exact g.elim
  · exact g.elim
def eOp (g : D2) (m1 m2 : E) : E := fun ρ S => (m1 ρ S).bind fun a S => (m2 ρ S).bind fun b S => g a b S
/-- two values in a row, then what is done with them -/
theorem eOp_reads {U : Wd} {g : D2} {m1 m2 : E} {W : WX} {σ : L2.St} {H : Hp} {Q : VK} (h : tEv U (eOp g m1 m2) W σ H Q) : tEv U m1 W σ H fun x H1 => tEv U m2 W σ H1 fun y H2 => rD U g W σ x y H2 Q := by
  obtain ⟨G, ρ, S, rs, re, h⟩ := h
  obtain ⟨G0, ρ0, S0, a, b, c⟩ := tEv.bind rs re h
  refine ⟨G0, ρ0, S0, a, b, Go.mono c fun v H1 ⟨G1, d, S1, s, rs1, re1, dv, g1⟩ => ?_⟩
  obtain ⟨G0, ρ0, S0, a, b, c⟩ := tEv.bind rs1 re1 g1
  exact ⟨G0, ρ0, S0, a, b, Go.mono c fun w H2 ⟨G2, d2, S2, s2, rs2, re2, dw, g2⟩ => ⟨G2, S2, d, d2, rs2, dv.mono s2, dw, g2⟩⟩
theorem ce_ix (hr : Room k X.A) {a b : Expr} {m1 m2 : E} (ha : CE X a m1) (hb : CE X b m2) (hs : PlainIx b := by exact fun _ _ => rfl) : CE X (.Subscript a b pos) (eOp oIx m1 m2) := fun W tk => ⟨fun pins s σ H Q I h => by
  refine Subscript_ (binT (ha W tk) (hb W tk) I (eOp_reads h) fun v u s2 x y H2 I2 rx ry q => od_ix hr W σ a b pins s2 σ H2 x y v u Q I2 rx ry q (hs _ _))⟩
theorem ce_bin {op : Operator} {g : D2} {a b : Expr} {m1 m2 : E} (ho : OpD X (binaryOp op) g) (ha : CE X a m1) (hb : CE X b m2) : CE X (.BinOp a op b pos) (eOp g m1 m2) := fun W tk => ⟨fun pins s σ H Q I h =>
  wpAny_BinOp (binT (ha W tk) (hb W tk) I (eOp_reads h) fun v u s2 x y H2 I2 rx ry q => ho W σ pins s2 σ H2 x y v u Q I2 rx ry q)⟩
theorem ce_cmp {op : CmpOp} {g : D2} {a b : Expr} {m1 m2 : E} (ho : OpD X (compareOp op) g) (ha : CE X a m1) (hb : CE X b m2) (hm : behindInMarks op b = false := by first | rfl | exact nomark _) : CE X (.Compare a [op] [b] pos) (eOp g m1 m2) := fun W tk => ⟨fun pins s σ H Q I h =>
  wpAny_Compare1 (binT (ha W tk) (hb W tk) I (eOp_reads h) fun v u s2 x y H2 I2 rx ry q => ho W σ pins s2 σ H2 x y v u Q I2 rx ry q) hm⟩
/-- a truth -/
def toB (m : E) : T := fun ρ S => (m ρ S).bind fun a S => match a with
  | .bl b => .ok b S
  | _ => .bad
theorem toB_reads {U : Wd} {m : E} {W : WX} {σ : L2.St} {H : Hp} {Q : Bool → Hp → Prop} (h : tTv U (toB m) W σ H Q) : tEv U m W σ H fun x H1 => ∃ c, x = .bl c ∧ Q c H1 := by
  obtain ⟨G, ρ, S, rs, re, h⟩ := h
  obtain ⟨G0, ρ0, S0, a, b, c⟩ := tEv.bind rs re h
  refine ⟨G0, ρ0, S0, a, b, Go.mono c fun v H1 ⟨G1, d, S1, s, rs1, re1, dv, g1⟩ => ?_⟩
  cases d with
  | bl b => exact ⟨b, dv, Go.ret g1 rs1 rfl⟩
  | _ => exact g1.elim
theorem ct_cmp {op : CmpOp} {g : D2} {a b : Expr} {m1 m2 : E} (ho : OpD X (compareOp op) g) (ha : CE X a m1) (hb : CE X b m2) (hm : behindInMarks op b = false := by first | rfl | exact nomark _) : CT X (.Compare a [op] [b] pos) (toB (eOp g m1 m2)) := fun W tk => ⟨fun pins s σ H Q I h => by
  refine wpAny_isTrue_Compare1 (binT (ha W tk) (hb W tk) I (eOp_reads (toB_reads h)) fun v u s2 x y H2 I2 rx ry q => thn (ho W σ pins s2 σ H2 x y v u _ I2 rx ry q) fun c s3 ⟨x, H1, I1, r1, q1⟩ => ?_) hm
  obtain ⟨d, rfl, q⟩ := q1
  cases r1
  exact wpAny_truthy_bool ⟨H1, I1, q⟩⟩
/-- an expression that gives a truth, as a test -/
theorem ct_val {e : Expr} {m : E} (h : CE X e m) (he : ∀ whole, isTrue e X.env whole = (do let v ← whole; standAt e.pos; holding [v] (truthy v)) := by intro _; rfl) : CT X e (toB m) := fun W tk => PT.imp (pt_val (h W tk) he) fun σ H Q h => toB_reads h
/-! ### and, or, not, a choice -/
def tNt (m : T) : T := fun ρ S => (m ρ S).bind fun b S => .ok (!b) S
def tAn (m1 m2 : T) : T := fun ρ S => (m1 ρ S).bind fun b S => if b = true then m2 ρ S else .ok false S
def tOr_ (m1 m2 : T) : T := fun ρ S => (m1 ρ S).bind fun b S => if b = true then .ok true S else m2 ρ S
theorem ct_not {a : Expr} {m : T} (ha : CT X a m) : CT X (.UnaryOp .Not a pos) (tNt m) := fun W tk => PT.imp (pt_not (ha W tk)) fun σ H Q ⟨G, ρ, S, rs, re, h⟩ => by
  obtain ⟨G0, ρ0, S0, a, b, c⟩ := tTv.bind rs re h
  exact ⟨G0, ρ0, S0, a, b, Go.mono c fun v H1 ⟨G1, S1, s, rs1, re1, g1⟩ => Go.ret g1 rs1 rfl⟩
theorem cw_and1 {a : Expr} {m : T} (ha : CT X a m) : CW X (.BoolOp .And [a] pos) m := fun W tk => pw_and1 (ha W tk)
theorem cw_or1 {a : Expr} {m : T} (ha : CT X a m) : CW X (.BoolOp .Or [a] pos) m := fun W tk => pw_or1 (ha W tk)
theorem ite_reads {U : Wd} {m2 : T} {W : WX} {σ : L2.St} {H : Hp} {Q : Bool → Hp → Prop} {G : Gh} {ρ : Env} {S : Sto} (rs : RelS U G S H) (re : RelE U G ρ σ H) (h : GoB U W σ G H (m2 ρ S) Q) : tTv U m2 W σ H Q := ⟨G, ρ, S, rs, re, h⟩
theorem cw_and {a b : Expr} {rest : List Expr} {m1 m2 : T} (ha : CT X a m1) (hb : CW X (.BoolOp .And (b :: rest) pos) m2) : CW X (.BoolOp .And (a :: b :: rest) pos) (tAn m1 m2) := fun W tk => PW.imp (pw_and (ha W tk) (hb W tk)) fun σ H Q ⟨G, ρ, S, rs, re, h⟩ => by
  obtain ⟨G0, ρ0, S0, a, b, c⟩ := tTv.bind rs re h
  refine ⟨G, ρ, S, rs, re, Go.mono (Go.bind (rel := relB) h) fun v H1 ⟨G1, d, S1, s, rs1, ev, g1⟩ => ?_⟩
  have ev : d = v := ev
  subst ev
  by_cases e : d = true
  · rw [if_pos e] at g1 ⊢; exact ⟨G1, ρ, S1, rs1, re.mono s, g1⟩
  · rw [if_neg e] at g1 ⊢; exact Go.ret g1 rs1 rfl
theorem cw_or {a b : Expr} {rest : List Expr} {m1 m2 : T} (ha : CT X a m1) (hb : CW X (.BoolOp .Or (b :: rest) pos) m2) : CW X (.BoolOp .Or (a :: b :: rest) pos) (tOr_ m1 m2) := fun W tk => PW.imp (pw_or (ha W tk) (hb W tk)) fun σ H Q ⟨G, ρ, S, rs, re, h⟩ => by
  refine ⟨G, ρ, S, rs, re, Go.mono (Go.bind (rel := relB) h) fun v H1 ⟨G1, d, S1, s, rs1, ev, g1⟩ => ?_⟩
  have ev : d = v := ev
  subst ev
  by_cases e : d = true
  · rw [if_pos e] at g1 ⊢; exact Go.ret g1 rs1 rfl
  · rw [if_neg e] at g1 ⊢; exact ⟨G1, ρ, S1, rs1, re.mono s, g1⟩
theorem ct_w {e : Expr} {m : T} (h : CW X e m) : CT X e m := fun W tk => (h W tk).pt
/-! .. as values -/
def eAn (m1 m2 : E) : E := fun ρ S => (m1 ρ S).bind fun a S => match a with
  | .bl b => if b = true then m2 ρ S else .ok (.bl false) S
  | _ => .bad
def eOr (m1 m2 : E) : E := fun ρ S => (m1 ρ S).bind fun a S => match a with
  | .bl b => if b = true then .ok (.bl true) S else m2 ρ S
  | _ => .bad
def eNt (m : E) : E := fun ρ S => (m ρ S).bind fun a S => match a with
  | .bl b => .ok (.bl (!b)) S
  | _ => .bad
theorem ce_one {op} {a : Expr} {m : E} (h : CE X a m) : CE X (.BoolOp op [a] pos) m := fun W tk => pe_one (h W tk)
theorem ce_and {a b : Expr} {rest : List Expr} {m1 m2 : E} (ha : CE X a m1) (hb : CE X (.BoolOp .And (b :: rest) pos) m2) : CE X (.BoolOp .And (a :: b :: rest) pos) (eAn m1 m2) := fun W tk => PE.imp (pe_and (ha W tk) (hb W tk)) fun σ H Q ⟨G, ρ, S, rs, re, h⟩ => by
  refine ⟨G, ρ, S, rs, re, Go.mono (Go.bind (rel := DV (wd X)) h) fun v H1 ⟨G1, d, S1, s, rs1, dv, g1⟩ => ?_⟩
  cases d with
  | bl b =>
    refine ⟨b, dv, ?_⟩
    by_cases e : b = true
    · rw [if_pos e] at ⊢; dsimp only at g1; rw [if_pos e] at g1; exact ⟨G1, ρ, S1, rs1, re.mono s, g1⟩
    · rw [if_neg e] at ⊢; dsimp only at g1; rw [if_neg e] at g1; exact Go.ret g1 rs1 rfl
  | _ => exact g1.elim
theorem ce_or {a b : Expr} {rest : List Expr} {m1 m2 : E} (ha : CE X a m1) (hb : CE X (.BoolOp .Or (b :: rest) pos) m2) : CE X (.BoolOp .Or (a :: b :: rest) pos) (eOr m1 m2) := fun W tk => PE.imp (pe_or (ha W tk) (hb W tk)) fun σ H Q ⟨G, ρ, S, rs, re, h⟩ => by
  refine ⟨G, ρ, S, rs, re, Go.mono (Go.bind (rel := DV (wd X)) h) fun v H1 ⟨G1, d, S1, s, rs1, dv, g1⟩ => ?_⟩
  cases d with
  | bl b =>
    refine ⟨b, dv, ?_⟩
    by_cases e : b = true
    · rw [if_pos e] at ⊢; dsimp only at g1; rw [if_pos e] at g1; exact Go.ret g1 rs1 rfl
    · rw [if_neg e] at ⊢; dsimp only at g1; rw [if_neg e] at g1; exact ⟨G1, ρ, S1, rs1, re.mono s, g1⟩
  | _ => exact g1.elim
theorem ce_not {a : Expr} {m : E} (ha : CE X a m) : CE X (.UnaryOp .Not a pos) (eNt m) := fun W tk => PE.imp (pe_not (ha W tk)) fun σ H Q ⟨G, ρ, S, rs, re, h⟩ => by
  refine ⟨G, ρ, S, rs, re, Go.mono (Go.bind (rel := DV (wd X)) h) fun v H1 ⟨G1, d, S1, s, rs1, dv, g1⟩ => ?_⟩
  cases d with
  | bl b => exact ⟨b, dv, Go.ret g1 rs1 rfl⟩
  | _ => exact g1.elim
def eIf (t : T) (m1 m2 : E) : E := fun ρ S => (t ρ S).bind fun b S => if b = true then m1 ρ S else m2 ρ S
theorem ce_if {c a b : Expr} {t : T} {m1 m2 : E} (hc : CT X c t) (ha : CE X a m1) (hb : CE X b m2) : CE X (.IfExp c a b pos) (eIf t m1 m2) := fun W tk => PE.imp (pe_ifExp (hc W tk) (ha W tk) (hb W tk)) fun σ H Q ⟨G, ρ, S, rs, re, h⟩ => by
  refine ⟨G, ρ, S, rs, re, Go.mono (Go.bind (rel := relB) h) fun v H1 ⟨G1, d, S1, s, rs1, ev, g1⟩ => ?_⟩
  have ev : d = v := ev
  subst ev
  by_cases e : d = true
  · rw [if_pos e] at g1 ⊢; exact ⟨G1, ρ, S1, rs1, re.mono s, g1⟩
  · rw [if_neg e] at g1 ⊢; exact ⟨G1, ρ, S1, rs1, re.mono s, g1⟩
end
end Z

/-! Z5: arithmetic, membership, slices, chains. -/
namespace Z
open PySem PySem.Spec PyProof.Rows L2
section
variable {X : Cx} {pos : Pos} {k : Nat}
theorem DVs.append {U : Wd} {G : Gh} {H : Hp} : ∀ {ds es : List D} {vs ws : List V}, DVs U G H ds vs → DVs U G H es ws → DVs U G H (ds ++ es) (vs ++ ws)
  | [], _, _, _, h, q => by cases (show _ = _ from h); exact q
  | d :: ds, _, _, _, ⟨v, r, e, h1, h2⟩, q => by subst e; exact ⟨v, r ++ _, rfl, h1, DVs.append h2 q⟩
def rCatAF (K : PySem.W.Frag) : R2 := fun x y H Q => ∃ a b xs ys, x = .ref a ∧ y = .ref b ∧ SqT K H a xs ∧ SqT K H b ys ∧ xs.length + ys.length ≤ sizeLine ∧
  (xs = [] → Q (.ref b) H) ∧ (xs ≠ [] → ys = [] → Q (.ref a) H) ∧ (xs ≠ [] → ys ≠ [] → ∀ (p : Addr) (o : Obj), H p = none → o.dict = none → Q (.ref p) (upd H p (.frz o (.tup (xs ++ ys)))))
theorem op_catAF : OpR X (binaryOp .Add) (rCatAF X.K) := by
  intro pins s σ H x y v u Q I rx ry h
  obtain ⟨a, b, xs, ys, rfl, rfl, ha, hb, hz, q0, q1, q2⟩ := h
  by_cases hx : xs = []
  · exact op_catA pins s σ H _ _ v u Q I rx ry ⟨a, b, xs, ys, rfl, rfl, ha, hb, hz, q0, q1, fun z => absurd hx z⟩
  · cases rx
    cases ry
    obtain ⟨its, r1, p1, _⟩ := I.tuple ha
    obtain ⟨its2, r2, p2, _⟩ := I.tuple hb
    refine HT.cat_tup p1 p2 (fun z => hx (r1.nil_iff.mp z)) (fun z => ⟨.ref a, H, I, rfl, q1 hx (r2.nil_iff.mp z)⟩) (fun z => ?_) (by rw [← r1.length, ← r2.length]; exact hz)
    refine ⟨.ref s.heap.objs.size, _, I.laid (t' := s.toks) (o := .frz _ (.tup (xs ++ ys))) (fun b ob q => Heap.get?_push_of_some _ q) (Nat.le_refl _) ⟨Heap.get?_push_size _ rfl, ?_⟩, rfl, q2 hx (fun w => z (r2.nil_iff.mpr w)) _ _ (I.hok.fresh (Nat.le_refl _)) rfl⟩
    exact ⟨by rw [List.length_append]; exact hz, _, r1.append r2, IsTup.new _ _⟩
def rSlAF (K : PySem.W.Frag) : V → Option Int → Option Int → Hp → VK → Prop := fun x lo hi H Q => ∃ a xs, x = .ref a ∧ SqT K H a xs ∧
  (HT.sIx xs.length 0 lo = 0 ∧ HT.sIx xs.length xs.length hi = xs.length → Q (.ref a) H) ∧ (¬ (HT.sIx xs.length 0 lo = 0 ∧ HT.sIx xs.length xs.length hi = xs.length) → ∀ (p : Addr) (o : Obj), H p = none → o.dict = none → Q (.ref p) (upd H p (.frz o (.tup (cutV xs lo hi)))))
theorem sl_tupAF : SlR X (rSlAF X.K) := by
  intro pins s σ H x v vl vu lo hi sl Q I rx hs pl pu h
  obtain ⟨a, xs, rfl, hx, q1, q2⟩ := h
  by_cases hw : HT.sIx xs.length 0 lo = 0 ∧ HT.sIx xs.length xs.length hi = xs.length
  · exact sl_tupA pins s σ H _ v vl vu lo hi sl Q I rx hs pl pu ⟨a, xs, rfl, hx, q1, fun z => absurd hw z⟩
  · cases rx
    obtain ⟨its, r, ht, hz⟩ := I.tuple hx
    have hlen : its.toArray.size = xs.length := by rw [List.size_toArray]; exact r.length.symm
    refine ⟨"tuple", _, PyProof.Rows.slot_tuple_getitem.lookup, ht.typeIs, ?_⟩
    refine HT.getItem_tuple_cut ht hs pl pu (by rw [hlen]; exact hw) ?_ (by rw [hlen]; exact hz)
    rw [hlen]
    refine ⟨.ref s.heap.objs.size, _, I.laid (t' := s.toks) (o := .frz _ (.tup (cutV xs lo hi))) (fun b ob q => Heap.get?_push_of_some _ q) (Nat.le_refl _) ⟨Heap.get?_push_size _ rfl, ?_⟩, rfl, q2 hw _ _ (I.hok.fresh (Nat.le_refl _)) rfl⟩
    exact ⟨Nat.le_trans (cutV_length xs lo hi) hz, _, (r.drop (HT.sIx xs.length 0 lo)).take (HT.sIx xs.length xs.length hi - HT.sIx xs.length 0 lo), IsTup.new _ _⟩
theorem op_catL : OpR X (binaryOp .Add) (fun x y H Q => ∃ l b xs zs, x = .ref l ∧ y = .ref b ∧ Rd H l (.lst xs) ∧ Rd H b (.lst zs) ∧ xs.length + zs.length ≤ sizeLine ∧ ∀ p, H p = none → Q (.ref p) (upd H p (.lst (xs ++ zs)))) := by
  intro pins s σ H x y v u Q I rx ry h
  obtain ⟨l, b, xs, zs, rfl, rfl, hH, hB, hz, q⟩ := h
  cases rx
  cases ry
  obtain ⟨z, its, n, r, e⟩ := hH.ok I.hok
  obtain ⟨z2, its2, n2, r2, e2⟩ := hB.ok I.hok
  have hl := r.length
  have hl2 := r2.length
  refine PySem.P.add_list e e2 ?_ (by rw [List.size_toArray, List.size_toArray]; omega)
  have ea : its.toArray ++ its2.toArray = (its ++ its2).toArray := by simp
  rw [ea]
  exact ⟨.ref _, _, I.lnew (t' := s.toks) (r.append r2) (by rw [List.length_append]; omega), rfl, q _ I.fresh⟩
def oAdd : D2 := fun a b S => match rd S a, rd S b with
  | .int i, .int j => .ok (.int (i + j)) S
  | .str x, .str y => if fits (x.length + y.length) = true then .ok (.str (x ++ y)) S else .bad
  | .tup ds, .tup es => if fits (ds.length + es.length) = true then .ok (.tup (ds ++ es)) S else .bad
  | .lst ds, .lst es => if fits (ds.length + es.length) = true then .ok (.lst (ds ++ es)) S else .bad
  | _, _ => .bad
theorem str_app (x y : List Nat) : ((⟨x.toArray⟩ : Str) ++ ⟨y.toArray⟩ : Str) = ⟨(x ++ y).toArray⟩ := by
  show (⟨x.toArray ++ y.toArray⟩ : Str) = _
  simp
theorem od_add : OpD X (binaryOp .Add) oAdd := fun W σ => by
  intro pins s σ' H x y v u Q I rx ry ⟨G, S, a, b, rs, qa, qb, g⟩
  unfold oAdd at g
  split at g
  · rename_i i j ea eb
    have qa := rd_atom ea rfl qa
    have qb := rd_atom eb rfl qb
    exact op_add pins s σ' H x y v u Q I rx ry ⟨i, j, qa, qb, Go.ret g rs rfl⟩
  · rename_i i j ea eb
    have qa := rd_atom ea rfl qa
    have qb := rd_atom eb rfl qb
    split at g
    · rename_i hf
      refine op_add_str pins s σ' H x y v u Q I rx ry ⟨_, _, qa, qb, by simpa [Str.length] using fits_le hf, ?_⟩
      rw [str_app]
      exact Go.ret g rs rfl
    · exact g.elim
  · rename_i ds es ea eb
    obtain ⟨p, vs, rfl, t1, q1⟩ := rd_tup ea qa
    obtain ⟨p2, ws, rfl, t2, q2⟩ := rd_tup eb qb
    split at g
    · rename_i hf
      refine op_catAF pins s σ' H _ _ v u Q I rx ry ⟨p, p2, vs, ws, rfl, rfl, t1, t2, by rw [q1.length, q2.length]; exact fits_le hf, fun e => ?_, fun e1 e2 => ?_, fun e1 e2 q o hq ho => ?_⟩
      · subst e
        have : ds = [] := by have := q1.length; cases ds with | nil => rfl | cons _ _ => simp at this
        subst this
        have eb' : b = .tup es := by
          cases b with
          | ref n => unfold rd at eb; dsimp only at eb; cases z : S.get n with
            | none => rw [z] at eb; cases eb
            | some o => rw [z] at eb; cases o <;> cases eb
          | _ => exact eb
        subst eb'
        exact Go.ret g rs qb
      · subst e2
        have : es = [] := by have := q2.length; cases es with | nil => rfl | cons _ _ => simp at this
        subst this
        have ea' : a = .tup ds := by
          cases a with
          | ref n => unfold rd at ea; dsimp only at ea; cases z : S.get n with
            | none => rw [z] at ea; cases ea
            | some o => rw [z] at ea; cases o <;> cases ea
          | _ => exact ea
        subst ea'
        rw [List.append_nil] at g
        exact Go.ret g rs qa
      · exact Go.new g rs hq (new_tup rs hq ho (q1.append q2))
    · exact g.elim
  · rename_i ds es ea eb
    obtain ⟨p, vs, rfl, t1, q1⟩ := rd_lstR rs ea qa
    obtain ⟨p2, ws, rfl, t2, q2⟩ := rd_lstR rs eb qb
    split at g
    · rename_i hf
      exact op_catL pins s σ' H _ _ v u Q I rx ry ⟨p, p2, vs, ws, rfl, rfl, t1, t2, by rw [q1.length, q2.length]; exact fits_le hf, fun q hq => Go.new g rs hq (new_lst rs hq (q1.append q2))⟩
    · exact g.elim
  · exact g.elim
def oSub : D2 := fun a b S => match a, b with
  | .int i, .int j => .ok (.int (i - j)) S
  | _, _ => .bad
theorem od_sub : OpD X (binaryOp .Sub) oSub := fun W σ => OpR.imp op_sub fun x y H Q ⟨G, S, a, b, rs, qa, qb, g⟩ => by
  unfold oSub at g
  split at g
  · exact ⟨_, _, qa, qb, Go.ret g rs rfl⟩
  · exact g.elim
/-- below 2^64 -/
def lt64 (i : Int) : Bool := Nat.blt i.natAbs 18446744073709551616
def oMul : D2 := fun a b S => match a, b with
  | .int i, .int j => if (lt64 i || lt64 j) = true then .ok (.int (i * j)) S else .bad
  | _, _ => .bad
theorem lt64_ok {i : Int} (h : lt64 i = true) : -(2 ^ 64) < i ∧ i < 2 ^ 64 := by
  have := Nat.le_of_ble_eq_true h
  omega
theorem od_mul : OpD X (binaryOp .Mult) oMul := fun W σ => OpR.imp op_mul fun x y H Q ⟨G, S, a, b, rs, qa, qb, g⟩ => by
  unfold oMul at g
  split at g
  · split at g
    · rename_i h
      exact ⟨_, _, qa, qb, (Bool.or_eq_true_iff.mp h).elim (fun z => .inl (lt64_ok z)) fun z => .inr (lt64_ok z), Go.ret g rs rfl⟩
    · exact g.elim
  · exact g.elim
/-- the divisor positive, below 2^30 -/
def divOk (j : Int) : Bool := decide (0 < j) && Nat.blt j.natAbs 1073741824
def oDiv : D2 := fun a b S => match a, b with
  | .int i, .int j => if divOk j = true then .ok (.int (i / j)) S else .bad
  | _, _ => .bad
def oMod : D2 := fun a b S => match a, b with
  | .int i, .int j => if decide (0 < j) = true then .ok (.int (i % j)) S else .bad
  | _, _ => .bad
theorem od_div : OpD X (binaryOp .FloorDiv) oDiv := fun W σ => OpR.imp op_fdiv fun x y H Q ⟨G, S, a, b, rs, qa, qb, g⟩ => by
  unfold oDiv at g
  split at g
  · split at g
    · rename_i h
      obtain ⟨h1, h2⟩ := Bool.and_eq_true_iff.mp h
      have h1 := of_decide_eq_true h1
      have h2 := Nat.le_of_ble_eq_true h2
      exact ⟨_, _, qa, qb, ⟨h1, by omega⟩, Go.ret g rs rfl⟩
    · exact g.elim
  · exact g.elim
theorem od_mod : OpD X (binaryOp .Mod) oMod := fun W σ => OpR.imp op_mod fun x y H Q ⟨G, S, a, b, rs, qa, qb, g⟩ => by
  unfold oMod at g
  split at g
  · split at g
    · rename_i h
      exact ⟨_, _, qa, qb, of_decide_eq_true h, Go.ret g rs rfl⟩
    · exact g.elim
  · exact g.elim
def oPow : D2 := fun a b S => match a, b with
  | .int i, .int j => if (decide (0 ≤ j) && decide (j ≤ 1000) && lt64 i) = true then .ok (.int (i ^ j.toNat)) S else .bad
  | _, _ => .bad
theorem od_pow : OpD X (binaryOp .Pow) oPow := fun W σ => OpR.imp op_pow fun x y H Q ⟨G, S, a, b, rs, qa, qb, g⟩ => by
  unfold oPow at g
  split at g
  · split at g
    · rename_i h
      obtain ⟨h12, h3⟩ := Bool.and_eq_true_iff.mp h
      obtain ⟨h1, h2⟩ := Bool.and_eq_true_iff.mp h12
      have h1 := of_decide_eq_true h1
      have h2 := of_decide_eq_true h2
      have h3 := Nat.le_of_ble_eq_true h3
      exact ⟨_, _, qa, qb, ⟨h1, by omega, by omega⟩, Go.ret g rs rfl⟩
    · exact g.elim
  · exact g.elim
/-! ### in -/
def inD (a b : D) (S : Sto) : Option Bool := match rd S b with
  | .tup ds => if shp 60 (rd S a) = true ∧ shp 60 (.tup ds) = true then some (ds.any fun z => eqv z (rd S a)) else none
  | .lst ds => if shp 60 (rd S a) = true ∧ shp 60 (.lst ds) = true then some (ds.any fun z => eqv z (rd S a)) else none
  | .str l => (match a with
    | .str [c] => some (l.elem c)
    | _ => none)
  | .dct ks zs => (match keyOf a with
    | some _ => some (dfind ks zs a).isSome
    | none => none)
  | _ => none
def oIn : D2 := fun a b S => match inD a b S with
  | some r => .ok (.bl r) S
  | none => .bad
def oNotIn : D2 := fun a b S => match inD a b S with
  | some r => .ok (.bl (!r)) S
  | none => .bad
theorem any_py (d : D) : ∀ ds : List D, ((toPys ds).any fun z => PyData.eqv z (toPy d)) = ds.any fun z => eqv z d
  | [] => rfl
  | e :: ds => by simp only [toPys, List.any_cons]; rw [eqv_py, any_py d ds]
theorem elem_dec (c : Nat) (l : List Nat) : l.elem c = decide (c ∈ l) := by
  rw [Bool.eq_iff_iff]; simp
/-- x in c, whatever c is, gives b -/
theorem in_ok (hr : Room k X.A) {neg : Bool} {pins : List (Addr × Obj)} {s : Shared} {σ : L2.St} {H : Hp} {x y : V} {v u : Value} {Q : VK} (I : Inv X pins σ H s) (rx : RelV x v) (ry : RelV y u) {G : Gh} {S : Sto} {a b : D} (rs : RelS (wd X) G S H) (qa : DV (wd X) G H a x) (qb : DV (wd X) G H b y)
    {r : Bool} (e : inD a b S = some r) (q : Q (.bl (if neg then !r else r)) H) : wpAny (model X.prog X.w) X.A (compareOp (if neg then .NotIn else .In) v u) (EP X pins σ Q) X.xe s := by
  unfold inD at e
  split at e
  · rename_i ds eb
    split at e
    · rename_i h
      have e := Option.some.inj e
      subst e
      obtain ⟨p, vs, rfl, t, qq⟩ := rd_tup eb qb
      obtain ⟨as, r1⟩ := Dp.reads I _ x v (qa.dpr rs h.1) rx
      obtain ⟨bs, r2⟩ := Dp.reads I (.tuple (toPys ds)) _ u (.tup t (DVs.dp (n := 60) (by simpa [shp] using h.2) qq)) ry
      have s1 := shaped_of h.1 (by decide)
      have s2 := shaped_of h.2 (by decide)
      cases neg with
      | false => exact SeqAt.in_tuple_reads r2 r1 (SeqAt.canLay_of_shaped s2) (SeqAt.canLay_of_shaped s1) (room_in_shaped s1 (Room.u65 hr)) ⟨.bl _, H, I, rfl, by rw [any_py]; exact q⟩
      | true => exact SeqAt.notIn_tuple_reads r2 r1 (SeqAt.canLay_of_shaped s2) (SeqAt.canLay_of_shaped s1) (room_in_shaped s1 (Room.u65 hr)) ⟨.bl _, H, I, rfl, by rw [any_py]; exact q⟩
    · cases e
  · rename_i ds eb
    split at e
    · rename_i h
      have e := Option.some.inj e
      subst e
      obtain ⟨p, vs, rfl, t, qq⟩ := rd_lst rs eb qb
      obtain ⟨as, r1⟩ := Dp.reads I _ x v (qa.dpr rs h.1) rx
      obtain ⟨bs, r2⟩ := Dp.reads I (.list (toPys ds)) _ u (.lst t (DVs.dp (n := 60) (by simpa [shp] using h.2) qq)) ry
      have s1 := shaped_of h.1 (by decide)
      have s2 := shaped_of h.2 (by decide)
      cases neg with
      | false => exact SeqAt.in_list_reads r2 r1 (SeqAt.canLay_of_shaped s2) (SeqAt.canLay_of_shaped s1) (room_in_shaped s1 (Room.u65 hr)) ⟨.bl _, H, I, rfl, by rw [any_py]; exact q⟩
      | true => exact SeqAt.notIn_list_reads r2 r1 (SeqAt.canLay_of_shaped s2) (SeqAt.canLay_of_shaped s1) (room_in_shaped s1 (Room.u65 hr)) ⟨.bl _, H, I, rfl, by rw [any_py]; exact q⟩
    · cases e
  · rename_i l eb
    split at e
    · rename_i c
      have e := Option.some.inj e
      subst e
      have qb := rd_atom eb rfl qb
      have ec : decide (c ∈ (⟨l.toArray⟩ : Str).cps.toList) = l.elem c := by rw [elem_dec]
      cases neg with
      | false => exact op_in_sign pins s σ H x y v u Q I rx ry ⟨c, _, qa, qb, by rw [ec]; exact q⟩
      | true => exact op_notIn_sign pins s σ H x y v u Q I rx ry ⟨c, _, qa, qb, by rw [ec]; exact q⟩
    · cases e
  · rename_i ks zs eb
    split at e
    · rename_i kk hk
      have e := Option.some.inj e
      subst e
      obtain ⟨p, kvs, rfl, hH, h1, h2⟩ := rd_dct rs eb qb
      obtain rfl : u = .ref p := ry
      have g := dct_get hH h1 h2 hk qa
      cases z : dfind ks zs a with
      | none =>
        rw [z] at q
        have g := g.2 z
        cases neg with
        | false => exact d_in (Room.u1 hr) I g rx fun s' I' => ⟨.bl _, H, I', rfl, q⟩
        | true => exact d_notIn (Room.u1 hr) I g rx fun s' I' => ⟨.bl _, H, I', rfl, q⟩
      | some w =>
        rw [z] at q
        obtain ⟨v', g, _⟩ := g.1 w z
        cases neg with
        | false => exact d_in (Room.u1 hr) I g rx fun s' I' => ⟨.bl _, H, I', rfl, q⟩
        | true => exact d_notIn (Room.u1 hr) I g rx fun s' I' => ⟨.bl _, H, I', rfl, q⟩
    · cases e
  · cases e
theorem od_in (hr : Room k X.A) : OpD X (compareOp .In) oIn := fun W σ => by
  intro pins s σ' H x y v u Q I rx ry ⟨G, S, a, b, rs, qa, qb, g⟩
  unfold oIn at g
  split at g
  · rename_i r e
    exact in_ok (neg := false) hr I rx ry rs qa qb e (Go.ret g rs rfl)
  · exact g.elim
theorem od_notIn (hr : Room k X.A) : OpD X (compareOp .NotIn) oNotIn := fun W σ => by
  intro pins s σ' H x y v u Q I rx ry ⟨G, S, a, b, rs, qa, qb, g⟩
  unfold oNotIn at g
  split at g
  · rename_i r e
    exact in_ok (neg := true) hr I rx ry rs qa qb e (Go.ret g rs rfl)
  · exact g.elim
/-! ### unary minus -/
def eNeg (m : E) : E := fun ρ S => (m ρ S).bind fun a S => match a with
  | .int i => .ok (.int (-i)) S
  | _ => .bad
theorem ce_neg {a : Expr} {m : E} (ha : CE X a m) : CE X (.UnaryOp .USub a pos) (eNeg m) := fun W tk => PE.imp (pe_un un_neg (ha W tk)) fun σ H Q ⟨G, ρ, S, rs, re, h⟩ => by
  refine ⟨G, ρ, S, rs, re, Go.mono (Go.bind (rel := DV (wd X)) h) fun v H1 ⟨G1, d, S1, s, rs1, dv, g1⟩ => ?_⟩
  cases d with
  | int i => exact ⟨i, dv, Go.ret g1 rs1 rfl⟩
  | _ => exact g1.elim
/-! ### a < b < c -/
def eChain (g g' : D2) (m1 m2 m3 : E) : E := fun ρ S => (m1 ρ S).bind fun a S => (m2 ρ S).bind fun b S => (g a b S).bind fun r S => match r with
  | .bl k => if k = true then (m3 ρ S).bind fun c S => g' b c S else .ok (.bl false) S
  | _ => .bad
theorem chain_reads {U : Wd} {g g' : D2} {m1 m2 m3 : E} {W : WX} {σ : L2.St} {H : Hp} {Q : VK} (h : tEv U (eChain g g' m1 m2 m3) W σ H Q) :
    tChain (rD U g W σ) (rD U g' W σ) (tEv U m1 W) (tEv U m2 W) (tEv U m3 W) σ H Q := by
  obtain ⟨G, ρ, S, rs, re, h⟩ := h
  obtain ⟨G0, ρ0, S0, a, b, c⟩ := tEv.bind rs re h
  refine ⟨G0, ρ0, S0, a, b, Go.mono c fun v H1 ⟨G1, d, S1, s, rs1, re1, dv, g1⟩ => ?_⟩
  obtain ⟨G0, ρ0, S0, a, b, c⟩ := tEv.bind rs1 re1 g1
  refine ⟨G0, ρ0, S0, a, b, Go.mono c fun w H2 ⟨G2, d2, S2, s2, rs2, re2, dw, g2⟩ => ?_⟩
  refine ⟨G2, S2, d, d2, rs2, dv.mono s2, dw, Go.mono (Go.bind (rel := DV U) g2) fun z H3 ⟨G3, r, S3, s3, rs3, dz, g3⟩ => ?_⟩
  cases r with
  | bl kk =>
    cases (show z = .bl kk from dz)
    by_cases e : kk = true
    · subst e
      dsimp only at g3
      rw [if_pos rfl] at g3
      refine ⟨true, rfl, ?_⟩
      rw [if_pos rfl]
      obtain ⟨G0, ρ0, S0, a, b, c⟩ := tEv.bind rs3 (re2.mono s3) g3
      exact ⟨G0, ρ0, S0, a, b, Go.mono c fun w' H4 ⟨G4, d4, S4, s4, rs4, re4, dw4, g4⟩ => ⟨G4, S4, d2, d4, rs4, (dw.mono s3).mono s4, dw4, g4⟩⟩
    · have e : kk = false := by simpa using e
      subst e
      exact ⟨false, rfl, Go.ret g3 rs3 rfl⟩
  | _ => exact g3.elim
theorem ce_chain {op op' : CmpOp} {g g' : D2} {a b c : Expr} {m1 m2 m3 : E} (ho : OpD X (compareOp op) g) (ho' : OpD X (compareOp op') g') (ha : CE X a m1) (hb : CE X b m2) (hc : CE X c m3)
    (hm : lastMarks [op, op'] [b, c] = false := by with_unfolding_all rfl) : CE X (.Compare a [op, op'] [b, c] pos) (eChain g g' m1 m2 m3) := fun W tk => ⟨fun pins s σ H Q I h =>
  (pe_chain (ho W σ) (ho' W σ) (ha W tk) (hb W tk) (hc W tk) hm).run pins s σ H Q I (chain_reads h)⟩
theorem ct_chain {op op' : CmpOp} {g g' : D2} {a b c : Expr} {m1 m2 m3 : E} (ho : OpD X (compareOp op) g) (ho' : OpD X (compareOp op') g') (ha : CE X a m1) (hb : CE X b m2) (hc : CE X c m3)
    (hm : lastMarks [op, op'] [b, c] = false := by with_unfolding_all rfl) : CT X (.Compare a [op, op'] [b, c] pos) (toB (eChain g g' m1 m2 m3)) := fun W tk => ⟨fun pins s σ H Q I h =>
  (pt_chain (ho W σ) (ho' W σ) (ha W tk) (hb W tk) (hc W tk) hm).run pins s σ H Q I (chain_reads (toB_reads h))⟩
/-! ### slices -/
abbrev PtE := Env → Sto → R (Option Int)
def pNone : PtE := fun _ S => .ok none S
def pSome (m : E) : PtE := fun ρ S => (m ρ S).bind fun a S => match a with
  | .int i => .ok (some i) S
  | _ => .bad
abbrev relO : Gh → Hp → Option Int → Option Int → Prop := fun _ _ a b => a = b
def tOv (U : Wd) (m : PtE) (W : WX) : TO := fun σ H Q => ∃ G ρ S, RelS U G S H ∧ RelE U G ρ σ H ∧ Go (α := Option Int) (α' := Option Int) relO U W σ G H (m ρ S) Q
def CO (X : Cx) (e : Option Expr) (m : PtE) : Prop := ∀ W, Takes X W → PO X e (tOv (wd X) m W)
theorem PO.imp {e : Option Expr} {t t' : TO} (h : PO X e t) (i : ∀ σ H Q, t' σ H Q → t σ H Q) : PO X e t' := ⟨fun p s σ H Q I q => h.run p s σ H Q I (i σ H Q q)⟩
theorem co_none : CO X none pNone := fun W tk => PO.imp po_none fun σ H Q ⟨G, ρ, S, rs, re, h⟩ => Go.ret h rs rfl
theorem co_some {e : Expr} {m : E} (h : CE X e m) : CO X (some e) (pSome m) := fun W tk => PO.imp (po_some (h W tk)) fun σ H Q ⟨G, ρ, S, rs, re, h⟩ => by
  refine ⟨G, ρ, S, rs, re, Go.mono (Go.bind (rel := DV (wd X)) h) fun v H1 ⟨G1, d, S1, s, rs1, dv, g1⟩ => ?_⟩
  cases d with
  | int i => exact ⟨i, dv, Go.ret g1 rs1 rfl⟩
  | _ => exact g1.elim
def cut {α : Type} (xs : List α) (lo hi : Option Int) : List α := (xs.drop (HT.sIx xs.length 0 lo)).take (HT.sIx xs.length xs.length hi - HT.sIx xs.length 0 lo)
def oSl (a : D) (lo hi : Option Int) (S : Sto) : R D := match rd S a with
  | .tup ds => .ok (.tup (cut ds lo hi)) S
  | .lst ds => .ok (.lst (cut ds lo hi)) S
  | .str l => if fits l.length = true then .ok (.str (cut l lo hi)) S else .bad
  | .arg ns => .ok (.lst ((cut ns lo hi).map .int)) S
  | _ => .bad
theorem DVs.take {U : Wd} {G : Gh} {H : Hp} : ∀ {ds : List D} {vs : List V} (n : Nat), DVs U G H ds vs → DVs U G H (ds.take n) (vs.take n)
  | [], _, n, h => by cases (show _ = _ from h); simp [DVs]
  | d :: ds, _, 0, ⟨v, r, e, h1, h2⟩ => by simp [DVs]
  | d :: ds, _, n + 1, ⟨v, r, e, h1, h2⟩ => by subst e; exact ⟨v, r.take n, rfl, h1, DVs.take n h2⟩
theorem DVs.drop {U : Wd} {G : Gh} {H : Hp} : ∀ {ds : List D} {vs : List V} (n : Nat), DVs U G H ds vs → DVs U G H (ds.drop n) (vs.drop n)
  | [], _, n, h => by cases (show _ = _ from h); simp [DVs]
  | d :: ds, _, 0, h => h
  | d :: ds, _, n + 1, ⟨v, r, e, h1, h2⟩ => by subst e; exact DVs.drop n h2
theorem DVs.cut {U : Wd} {G : Gh} {H : Hp} {ds : List D} {vs : List V} {lo hi : Option Int} (q : DVs U G H ds vs) : DVs U G H (cut ds lo hi) (cutV vs lo hi) := by
  unfold Z.cut cutV
  rw [q.length]
  exact (q.drop _).take _
theorem cut_whole {α : Type} {ds : List α} {lo hi : Option Int} (h : HT.sIx ds.length 0 lo = 0 ∧ HT.sIx ds.length ds.length hi = ds.length) : cut ds lo hi = ds := by
  unfold cut
  rw [h.1, h.2]
  simp
def rSl (U : Wd) (W : WX) (σ : L2.St) : V → Option Int → Option Int → Hp → VK → Prop := fun x lo hi H Q => ∃ G S a, RelS U G S H ∧ DV U G H a x ∧ GoD U W σ G H (oSl a lo hi S) Q
theorem sl_any (W : WX) (σ : L2.St) : SlR X (rSl (wd X) W σ) := by
  intro pins s σ' H x v vl vu lo hi sl Q I rx hs pl pu ⟨G, S, a, rs, qa, g⟩
  unfold oSl at g
  split at g
  · rename_i ds e
    obtain ⟨p, vs, rfl, t, q⟩ := rd_tup e qa
    refine sl_tupAF pins s σ' H _ v vl vu lo hi sl Q I rx hs pl pu ⟨p, vs, rfl, t, fun hw => ?_, fun hw q' o hq ho => Go.new g rs hq (new_tup rs hq ho q.cut)⟩
    rw [q.length] at hw
    rw [cut_whole hw] at g
    refine Go.ret g rs ?_
    have ea : a = .tup ds := by
      cases a with
      | ref n => unfold rd at e; dsimp only at e; cases z : S.get n with
        | none => rw [z] at e; cases e
        | some o => rw [z] at e; cases o <;> cases e
      | _ => exact e
    subst ea
    exact qa
  · rename_i ds e
    obtain ⟨p, vs, rfl, t, q⟩ := rd_lst rs e qa
    exact sl_list pins s σ' H _ v vl vu lo hi sl Q I rx hs pl pu ⟨p, vs, rfl, t, fun q' hq => Go.new g rs hq (new_lst rs hq q.cut)⟩
  · rename_i l e
    split at g
    · rename_i hf
      cases (show _ = _ from rd_atom e rfl qa)
      refine sl_str pins s σ' H _ v vl vu lo hi sl Q I rx hs pl pu ⟨_, rfl, by simpa [Str.length] using fits_le hf, ?_⟩
      refine Go.ret g rs ?_
      show V.str _ = V.str _
      simp [cutS, Z.cut, Str.length]
    · exact g.elim
  · rename_i ns e
    have ea : a = .arg ns := by
      cases a with
      | ref n => unfold rd at e; dsimp only at e; cases z : S.get n with
        | none => rw [z] at e; cases e
        | some o => rw [z] at e; cases o <;> cases e
      | _ => exact e
    subst ea
    obtain ⟨p, rfl, t⟩ := qa
    refine sl_list pins s σ' H _ v vl vu lo hi sl Q I rx hs pl pu ⟨p, _, rfl, t.sq, fun q' hq => Go.new g rs hq (new_lst rs hq ?_)⟩
    have e2 : cutV (ns.map V.int) lo hi = (Z.cut ns lo hi).map V.int := by
      unfold cutV Z.cut
      rw [List.length_map, List.map_take, List.map_drop]
    rw [e2]
    exact ints_vs
  · exact g.elim
def eSl (m : E) (p q : PtE) : E := fun ρ S => (m ρ S).bind fun a S => (p ρ S).bind fun lo S => (q ρ S).bind fun hi S => oSl a lo hi S
theorem ce_slice {e : Expr} {lo hi : Option Expr} {m : E} {p q : PtE} {p2 : Pos} (he : CE X e m) (hl : CO X lo p) (hh : CO X hi q) : CE X (.Subscript e (.Slice lo hi none p2) pos) (eSl m p q) := fun W tk => ⟨fun pins s σ H Q I h =>
  (pe_slice (sl_any W σ) (he W tk) (hl W tk) (hh W tk)).run pins s σ H Q I (by
    obtain ⟨G, ρ, S, rs, re, h⟩ := h
    obtain ⟨G0, ρ0, S0, a, b, c⟩ := tEv.bind rs re h
    refine ⟨G0, ρ0, S0, a, b, Go.mono c fun v H1 ⟨G1, d, S1, s1, rs1, re1, dv, g1⟩ => ?_⟩
    refine ⟨G1, ρ, S1, rs1, re1, Go.mono (Go.bind (rel := relO) g1) fun lo H2 ⟨G2, lo', S2, s2, rs2, el, g2⟩ => ?_⟩
    cases (show lo' = lo from el)
    refine ⟨G2, ρ, S2, rs2, re1.mono s2, Go.mono (Go.bind (rel := relO) g2) fun hi H3 ⟨G3, hi', S3, s3, rs3, eh, g3⟩ => ?_⟩
    cases (show hi' = hi from eh)
    exact ⟨G3, S3, d, rs3, (dv.mono s2).mono s3, g3⟩)⟩
end
end Z

/-! Z6: xs[::-1]; calls of built-ins. -/
namespace Z
open PySem PySem.Spec PyProof.Rows L2
section
variable {prog : Program} {w : World} {A : Around} {E : Value → Shared → Prop} {s : Shared}
theorem filterMap_congr' {α β : Type} {f g : α → Option β} : ∀ {l : List α}, (∀ m ∈ l, f m = g m) → l.filterMap f = l.filterMap g
  | [], _ => rfl
  | a :: l, h => by rw [List.filterMap_cons, List.filterMap_cons, h a List.mem_cons_self, filterMap_congr' fun m hm => h m (List.mem_cons_of_mem _ hm)]
theorem rev_pick (xs : Array Value) : ((List.range xs.size).filterMap fun (m : Nat) => xs[(((xs.size : Int) - 1) + (m : Int) * (-1)).toNat]?).toArray = xs.toList.reverse.toArray := by
  have e : (List.range xs.size).filterMap (fun (m : Nat) => xs[(((xs.size : Int) - 1) + (m : Int) * (-1)).toNat]?) = ((List.range xs.size).map fun k => xs.size - 1 - k).filterMap (xs[·]?) := by
    rw [List.filterMap_map]
    apply filterMap_congr'
    intro m hm
    have := List.mem_range.mp hm
    have e : (((xs.size : Int) - 1) + (m : Int) * (-1)).toNat = xs.size - 1 - m := by omega
    show xs[_]? = xs[_]?
    rw [e]
  rw [e, PySem.W.krv_range, List.filterMap_reverse, PySem.W.krv_all]
theorem getItem_tuple_rev {t sl : Addr} {items : Array Value} {vs : Value} {Q : Value → Shared → Prop} (ht : IsTup s.heap t items) (hs : s.heap.IsSliceOf sl .none .none vs) (ps : IsPart vs (some (-1)))
    (h : Q (.ref s.heap.objs.size) { s with heap := s.heap.push { cls := .type "tuple", data := .seq items.toList.reverse.toArray } })
    (hsz : items.size ≤ sizeLine) : wpAny (model prog w) A (getItem (.ref t) (.ref sl)) Q E s := by
  have htake : sizeOk (.seq items.toList.reverse.toArray) := by
    show items.toList.reverse.toArray.size ≤ sizeLine
    simpa using hsz
  obtain ⟨os, hos, hcs, hds⟩ := id hs
  have hTs : s.TypeIs (.ref sl) "slice" := ⟨os, hos, hcs⟩
  unfold getItem
  try with_reducible refine wpAny_holding ?_
  first | refine wpAny_bind (wpAny_pure ?_) | skip
  refine wpAny_bind (wpAny_sequenceKey ht.typeIs (by decide) ?_)
  refine wpAny_bind (wpAny_callSpecial?_slot (name := Str.ofString "__getitem__") ht.typeIs PyProof.Rows.slot_tuple_getitem
    (wpAny_call_entry PyProof.Rows.slot_tuple_getitem ht.typeIs entry_tuple_getitem ?_ (args_tuple_getitem _ _)))
  show wpAny _ _ (Builtin.Tuple.tupleItemsOf (.ref t) >>= _) _ _ s
  refine wpAny_bind (tupleItemsOf_ ht ?_)
  refine wpAny_bind (wpAny_typeOf hTs ?_)
  rw [if_pos (by decide)]
  have hap : ∀ {A : Around} {E : Value → Shared → Prop} {Q : Int × Int × Nat → Shared → Prop}, Q ((items.size : Int) - 1, -1, items.size) s → wpAny (model prog w) A (Builtin.Slice.sliceApplied (.ref sl) (pure (items.size : Int))) Q E s := fun {A E Q} h => by
    unfold Builtin.Slice.sliceApplied Builtin.Slice.sliceFields
    refine wpAny_bind (wpAny_bind (wpAny_field hos hds (x := .none) rfl (wpAny_bind (wpAny_field hos hds (x := .none) rfl (wpAny_bind (wpAny_field hos hds (x := vs) rfl (wpAny_pure ?_)))))))
    refine wpAny_bind (HT.slicePart_ ps ?_)
    show wpAny _ _ (if ((-1 : Int) == 0) = true then _ else _) _ _ s
    rw [if_neg (by decide)]
    refine wpAny_bind (HT.slicePart_ .none (wpAny_bind (HT.slicePart_ .none (wpAny_bind (wpAny_pure ?_)))))
    show wpAny _ _ (pure ((items.size : Int) - 1, (-1 : Int), Builtin.Slice.slicePlaces ((items.size : Int) - 1) (-1) (-1))) _ _ s
    have e : Builtin.Slice.slicePlaces ((items.size : Int) - 1) (-1) (-1) = items.size := by
      unfold Builtin.Slice.slicePlaces
      have h1 : ¬ ((-1 : Int) > 0) := by decide
      simp only [h1, if_false, Int.neg_neg, Int.ediv_one]
      split <;> omega
    rw [e]
    exact wpAny_pure h
  refine wpAny_bind (hap ?_)
  have hno : ¬ ((((items.size : Int) - 1) == 0 && (-1 : Int) == 1 && items.size == items.size) = true) := by
    rw [show ((-1 : Int) == 1) = false from rfl, Bool.and_false, Bool.false_and]
    exact Bool.false_ne_true
  show wpAny _ _ (if ((((items.size : Int) - 1) == 0 && (-1 : Int) == 1 && items.size == items.size) = true) then _ else _) _ _ s
  rw [if_neg hno, rev_pick]
  first
    | exact wpAny_bind (m := Builtin.Tuple.tupleExact _) (wpAny_newObj_type (wpAny_pure ⟨_, rfl, wpAny_pure h⟩) htake)
    | exact wpAny_bind (m := Builtin.Tuple.tupleExact _) (wpAny_newObj_type (wpAny_bind (wpAny_pure (wpAny_pure ⟨_, rfl, wpAny_pure h⟩))) htake)
    | exact wpAny_bind (wpAny_bind (m := Builtin.Tuple.tupleExact _) (wpAny_newObj_type (wpAny_pure (wpAny_pure ⟨_, rfl, wpAny_pure h⟩)) htake))
    | exact wpAny_bind (wpAny_bind (m := Builtin.Tuple.tupleExact _) (wpAny_newObj_type (wpAny_pure ⟨_, rfl, wpAny_pure h⟩) htake))
end
section
variable {X : Cx} {pos : Pos} {k : Nat}
theorem DVs.reverse {U : Wd} {G : Gh} {H : Hp} : ∀ {ds : List D} {vs : List V}, DVs U G H ds vs → DVs U G H ds.reverse vs.reverse
  | [], _, h => by cases (show _ = _ from h); rfl
  | d :: ds, _, ⟨v, r, e, h1, h2⟩ => by subst e; rw [List.reverse_cons, List.reverse_cons]; exact (DVs.reverse h2).append (DVs.cons h1 DVs.nil)
def eRev (m : E) : E := fun ρ S => (m ρ S).bind fun a S => match rd S a with
  | .tup ds => .ok (.tup ds.reverse) S
  | .lst ds => .ok (.lst ds.reverse) S
  | _ => .bad
theorem ce_rev {e : Expr} {m : E} {k : Nat} {p1 p2 p3 : Pos} (he : CE X e m) : CE X (.Subscript e (.Slice none none (some (.UnaryOp .USub (.Constant (.int 1) k p1) p2)) p3) pos) (eRev m) := fun W tk => ⟨fun pins s σ H Q I h => by
  obtain ⟨G, ρ, S, rs, re, h⟩ := h
  obtain ⟨G0, ρ0, S0, a0, b0, c0⟩ := tEv.bind rs re h
  refine Subscript_ (thn ((he W tk).run pins s σ H _ I ⟨G0, ρ0, S0, a0, b0, c0⟩) fun v s1 ⟨x, H1, I1, r1, G1, d, S1, st1, rs1, re1, dv, g⟩ => ?_)
  have hst : PO X (some (.UnaryOp .USub (.Constant (.int 1) k p1) p2)) (tPart (tUn (rU fun i => .int (-i)) (tC (.int 1)))) := po_some (pe_un un_neg pe_int)
  refine wpAny_Slice (thn (po_none.run pins s1 σ H1 (fun o H2 => o = none ∧ H2 = H1) I1 ⟨rfl, rfl⟩) fun vl s2 ⟨l, H2, I2, pl, el, e2⟩ => ?_)
  subst el e2
  refine thn (po_none.run pins s2 σ H2 (fun o H3 => o = none ∧ H3 = H2) I2 ⟨rfl, rfl⟩) fun vu s3 ⟨u, H3, I3, pu, eu, e3⟩ => ?_
  subst eu e3
  refine thn (hst.run pins s3 σ H3 (fun o H4 => o = some (-1) ∧ H4 = H3) I3 ⟨1, rfl, -1, rfl, rfl, rfl⟩) fun vs s4 ⟨o, H4, I4, ps, eo, e4⟩ => ?_
  subst eo e4
  have I5 : Inv X pins σ H4 { s4 with heap := s4.heap.push { cls := .type "slice", data := .fields #[vl, vu, vs] } } := I4.kept (t' := s4.toks) fun b o e => Heap.get?_push_of_some _ e
  split at g
  · rename_i ds e
    obtain ⟨p, vs', rfl, t, q⟩ := rd_tup e dv
    cases r1
    obtain ⟨its, r, ht, hz⟩ := I5.tuple t
    show wpAny (model X.prog X.w) X.A (subscriptTail _ (.Slice none none (some (.UnaryOp .USub (.Constant (.int 1) k p1) p2)) p3) (.ref p) (.ref s4.heap.objs.size)) (EP X pins σ Q) X.xe { s4 with heap := s4.heap.push { cls := .type "slice", data := .fields #[vl, vu, vs] } }
    refine tail_any (ops := [.ref p, .ref s4.heap.objs.size]) ht.typeIs (PyProof.Rows.slot_tuple_getitem.lookup) ?_ (by with_unfolding_all rfl)
    cases pl
    cases pu
    refine getItem_tuple_rev ht (Heap.IsSliceOf.new _ .none .none vs) ps ?_ (by rw [List.size_toArray, ← r.length]; exact hz)
    refine ⟨.ref _, _, I5.laid (t' := s4.toks) (o := .frz _ (.tup vs'.reverse)) (fun b ob q => Heap.get?_push_of_some _ q) (Nat.le_refl _) ⟨Heap.get?_push_size _ rfl, ?_⟩, rfl, Go.new g rs1 (I5.hok.fresh (Nat.le_refl _)) (new_tup rs1 (I5.hok.fresh (Nat.le_refl _)) rfl q.reverse)⟩
    exact ⟨by rw [List.length_reverse]; exact hz, _, r.reverse, ⟨_, Heap.get?_push_size _ rfl, rfl, _, rfl⟩⟩
  · rename_i ds e
    obtain ⟨p, vs', rfl, t, q⟩ := rd_lst rs1 e dv
    cases r1
    obtain ⟨its, r, ht, hz⟩ := I5.list t
    have hlen := r.length
    show wpAny (model X.prog X.w) X.A (subscriptTail _ (.Slice none none (some (.UnaryOp .USub (.Constant (.int 1) k p1) p2)) p3) (.ref p) (.ref s4.heap.objs.size)) (EP X pins σ Q) X.xe { s4 with heap := s4.heap.push { cls := .type "slice", data := .fields #[vl, vu, vs] } }
    refine tail_any (ops := [.ref p, .ref s4.heap.objs.size]) ht.isList.typeIs (PySem.slot_list_getitem.lookup) ?_ (by with_unfolding_all rfl)
    refine wpAny_getItem_list_slice ht.isList (Heap.IsSliceOf.new _ vl vu vs) pl pu ps (by decide) ?_ (by rw [List.size_toArray]; omega)
    rw [PySem.W.krv_pick]
    refine ⟨.ref _, _, I5.laid (t' := s4.toks) (o := .lst vs'.reverse) (fun b ob q => Heap.get?_push_of_some _ q) (Nat.le_refl _) ?_, rfl, Go.new g rs1 (I5.hok.fresh (Nat.le_refl _)) (new_lst rs1 (I5.hok.fresh (Nat.le_refl _)) q.reverse)⟩
    exact ⟨by rw [List.length_reverse]; exact hz, _, 0, r.reverse, Heap.get?_push_size _ rfl⟩
  · exact g.elim⟩
end
end Z

/-! ZG: what a def promises where no repr is under way; its call; the law's own call. -/
namespace Z
open PySem PySem.Spec PyProof PyProof.Rows L2
structure FnG (P : Program) (w : World) (K : PySem.W.Frag) (mg : Str → Option Value) (base : Heap) (CX : CXT) (k : Nat) (f : Addr) (fd : FuncData) (ps : List Str) (sp : Sp) : Prop where
  ln : ∀ vs H Q E, sp vs H Q E → vs.length = ps.length
  go : ∀ (A : Around) (outer : List PySem.Env) (s : Shared) (H : Hp) (args : Args) (us : List Value) (vs : List V) (Q : VK) (E : XK), Room k A → A.guards = some [] → Env0 P w K mg base A outer s H → BindsTo s fd args (ps.zip us) → Vals vs us → sp vs H Q E → codeAny (model P w) A (.call (.ref f) args) (CR CX outer P w H s Q E) s
section
variable {P : Program} {w : World} {K : PySem.W.Frag} {mg : Str → Option Value} {base : Heap} {CX : CXT} {j k : Nat} {f : Addr} {fd : FuncData} {ps : List Str} {sp sp' : Sp}
theorem FnG.mono (F : FnG P w K mg base CX j f fd ps sp) (h : j ≤ k) : FnG P w K mg base CX k f fd ps sp := ⟨F.ln, fun A outer s H args us vs Q E hr hg => F.go A outer s H args us vs Q E (hr.mono h) hg⟩
theorem FnG.imp (F : FnG P w K mg base CX k f fd ps sp) (h : ∀ vs H Q E, sp' vs H Q E → sp vs H Q E) : FnG P w K mg base CX k f fd ps sp' :=
  ⟨fun vs H Q E q => F.ln vs H Q E (h _ _ _ _ q), fun A outer s H args us vs Q E hr hg he hb hv hs => F.go A outer s H args us vs Q E hr hg he hb hv (h _ _ _ _ hs)⟩
end
section
variable {X : Cx} {CX : CXT} {k : Nat} {f : Addr} {fd : FuncData} {ps : List Str} {sp : Sp} {E : L2.St → XK}
theorem runG {pins : List (Addr × Obj)} {σ : L2.St} {H : Hp} {s : Shared} {Q : VK} {us : List Value} {vs : List V} (F : FnG X.prog X.w X.K X.mg X.base CX k f fd ps sp) (hr : Room k X.A) (hgd : X.A.guards = some []) (hb : Binds X.K fd ps []) (hx : PassesAt CX X σ (E σ)) (inv : Inv X pins σ H s) (rv : Vals vs us) (want : sp vs H Q (E σ)) :
    wpAny (model X.prog X.w) X.A (call (.ref f) us) (EP X pins σ Q) X.xe s := by
  have many : us.length = ps.length := by rw [← rv.length]; exact F.ln _ _ _ _ want
  have bd := hb s us inv.kIn (by rw [List.append_nil]; exact many)
  rw [List.append_nil] at bd
  have z := F.go X.A X.stack s H ⟨us, []⟩ us vs Q (E σ) hr hgd inv.env0 bd rv want
  refine wpAny_call (codeAny_mono z fun end_ s2 hq => ?_)
  cases end_ with
  | error e => exact hx pins H s e s2 inv hq
  | ok fl =>
    cases fl with
    | ret u => exact inv.after hq
    | _ => exact False.elim hq
theorem pe_callG {x : Str} {p pos : Pos} {e : Expr} {es : List Expr} {t : TA} (F : FnG X.prog X.w X.K X.mg X.base CX k f fd ps sp) (hr : Room k X.A) (hgd : X.A.guards = some []) (hg : Gl X x) (hm : X.mg x = some (.ref f)) (hk : PySem.W.keepIn X.K (.ref f) = true) (hb : Binds X.K fd ps []) (hx : ∀ σ, PassesAt CX X σ (E σ)) (ha : PA X (e :: es) t) (hdb : (x == ("__debug__" : Str)) = false := by decide) (he : starEach (e :: es) X.env = (false, eval e X.env) :: starEach es X.env := by rfl) (hpl : (backTo pos (starEach es X.env)).any (·.1) = false := by rfl) :
    PE X (.Call (.Name x p) (e :: es) [] pos) (tCallS sp E t) := ⟨fun pins s σ H Q inv h => wpAny_Call_Name_kw (ld_glob inv hg hm (PySem.W.callWith_K (h₀ := X.base) inv.ok.mod.kin hk (thn (ha.run pos pins s σ H _ inv h) fun us s2 ⟨vs, H2, inv2, rv, q⟩ => ⟨inv2.kIn, runG F hr hgd hb (hx σ) inv2 rv q⟩) he hpl) hdb)⟩
theorem pe_callG0 {x : Str} {p pos : Pos} (F : FnG X.prog X.w X.K X.mg X.base CX k f fd ps sp) (hr : Room k X.A) (hgd : X.A.guards = some []) (hg : Gl X x) (hm : X.mg x = some (.ref f)) (hk : PySem.W.keepIn X.K (.ref f) = true) (hb : Binds X.K fd ps []) (hx : ∀ σ, PassesAt CX X σ (E σ)) (hdb : (x == ("__debug__" : Str)) = false := by decide) :
    PE X (.Call (.Name x p) [] [] pos) (tCallS sp E tNil) := ⟨fun pins s σ H Q inv h => wpAny_Call_Name_kw (ld_glob inv hg hm (PySem.W.callWith_K0 inv.kIn hk (runG (us := []) F hr hgd hb (hx σ) inv .nil h)) hdb)⟩
end
/-! a def's body -/
theorem fnG_of {CX : CXT} {P : Program} {w : World} {K : PySem.W.Frag} {mg : Str → Option Value} {base : Heap} {k : Nat} {f : Addr} {name qual : Str} {params : Arguments} {body : List Stmt} {scope : Scope} {dV kV doc pm cdv ct oc : Value} {an od : Option Addr} {osl : Array (Option Value)} {N ps : List Str} {sp : Sp} (lk : K.lookup f = some ⟨oc, od, .func (PySem.W.fnOf name qual params body scope dV kV doc pm an cdv ct), osl⟩) (hcd : PySem.W.codeIn K cdv qual = true) (Sc : FnScope N ps scope) (ln : ∀ vs H Q E, sp vs H Q E → vs.length = ps.length)
    (hbody : ∀ (A : Around) (outer : List PySem.Env) (s : Shared) (H : Hp) (vs : List V) (Q : VK) (E : XK), Room k (A.deeper (envOfC qual scope s.heap.objs.size f cdv)) → A.guards = some [] → sp vs H Q E →
      ∃ t, PSs (cxOf CX P w K mg base N qual scope f cdv A outer s H E) body t ∧ t { nx := fun _ H' => Q .non H', rt := Q } (L2.start N vs) H) :
    FnG P w K mg base CX (k + 1) f (PySem.W.fnOf name qual params body scope dV kV doc pm an cdv ct) ps sp := by
  refine ⟨ln, fun A outer s H args us vs Q E hr hgd e0 hb rv want => ?_⟩
  have many := ln _ _ _ _ want
  have kin : K.In s.heap := e0.mod.kin.keeps fun b o e => (e0.bs b o e).1
  have lim : s.heap.NoLimit := e0.mod.nolimit.keeps fun b o e => (e0.bs b o e).1
  have kinds : ∀ y ∈ ps.zip us, scope.names.lookup y.1 = some .local ∨ (scope.names.lookup y.1 = some .cell ∧ ((cellsFrom (s.heap.objs.size + 1) scope.names []).lookup y.1).isSome = true) := fun y hy =>
    (Sc.par y.1 (List.of_mem_zip (show (y.1, y.2) ∈ _ from hy)).1).elim .inl fun q => .inr ⟨q, PySem.W.cellsFrom_some _ _ _ (.inl q)⟩
  refine codeAny_call_function hr.depth (kin _ _ lk) rfl Sc.co Sc.gen rfl (PySem.W.codeRec_of kin hcd) (hb _ _ _ _ (wpAny_newFunctionEnv_cells Sc.kind kinds fun env he s2 x => ?_))
  subst he
  refine ⟨lim.keeps x.toInCall.keep, codeAny_func ?_⟩
  obtain ⟨t, ht, hq⟩ := hbody A outer s H vs Q E (hr.deeper _) hgd want
  have inv : Inv (cxOf CX P w K mg base N qual scope f cdv A outer s H E) [] (L2.start N vs) H s2 := inv_start Sc hr.hd e0 many rv x
  have fin : ∀ {s3 : Shared} {σ' : L2.St} {H' : Hp} {v : V} {u : Value}, Inv (cxOf CX P w K mg base N qual scope f cdv A outer s H E) [] σ' H' s3 → RelV v u → Q v H' → L2.CE outer P w H s Q u s3 := fun {s3 σ' H' v u} J r q => ⟨v, H', J.os, J.bare, J.base, J.hok, r, q⟩
  refine wpAny_mono (ht.run [] s2 (L2.start N vs) H _ inv hq) (fun fl s3 hs => ?_) fun e s3 hs => hs
  cases fl with
  | ret u => exact let ⟨v, σ', H', J, r, q⟩ := hs; fin J r q
  | next => exact let ⟨σ', H', J, q⟩ := hs; fin (v := V.non) (u := Value.none) J rfl q
  | brk => exact let ⟨_, _, _, q⟩ := hs; False.elim q
  | cont => exact let ⟨_, _, _, q⟩ := hs; False.elim q
theorem fnG_D {CX : CXT} {P : Program} {w : World} {K : PySem.W.Frag} {mg : Str → Option Value} {base : Heap} {x qual : Str} {params : Arguments} {body : List Stmt} {scope : Scope} {dvs : List V} {kws : List (Str × V)} {f : Addr} {fd : FuncData} {N ps : List Str} {k : Nat} {sp : Sp} (F : FunD K x qual params body scope dvs kws f fd) (Sc : FnScope N ps scope) (ln : ∀ vs H Q E, sp vs H Q E → vs.length = ps.length)
    (hbody : ∀ (cdv : Value) (A : Around) (outer : List PySem.Env) (s : Shared) (H : Hp) (vs : List V) (Q : VK) (E : XK), Room k (A.deeper (envOfC qual scope s.heap.objs.size f cdv)) → A.guards = some [] → sp vs H Q E →
      ∃ t, PSs (cxOf CX P w K mg base N qual scope f cdv A outer s H E) body t ∧ t { nx := fun _ H' => Q .non H', rt := Q } (L2.start N vs) H) : FnG P w K mg base CX (k + 1) f fd ps sp := by
  obtain ⟨_, _, _, _, _, _, _, cdv, _, _, rfl, lk, hcd, _⟩ := F.ex
  exact fnG_of lk hcd Sc ln fun A outer s H vs Q E => hbody cdv A outer s H vs Q E
/-! the law's own call, from a heap in which nothing but the script may be tracked -/
theorem lawG {P : Program} {w : World} {K : PySem.W.Frag} {mg mb : Str → Option Value} {CX : CXT} {k : Nat} {fa a : Addr} {fd : FuncData} {x : Str} {sp : Sp} {s1 : Shared} {vs : List Value} {ns : List Int}
    (KX : K.In s1.heap) (hns : s1.heap.Ns mainGlobals mg) (hb : s1.heap.Ns builtinsNs mb) (hbb : ∀ x : Str, x ≠ "__name__" → mb x = bootBuiltins x) (hlim : s1.heap.NoLimit) (hg : s1.gens = #[]) (ha : s1.heap.get? a = some { cls := .type "list", data := .seq vs.toArray }) (hi : IntsAre vs ns) (hl : ns.length ≤ sizeLine) (hr : Room k callerA)
    (F : ∀ base : Heap, K.In base → base.Ns mainGlobals mg → FnG P w K mg base CX k fa fd [x] sp) (hbind : ∀ (s : Shared) (u : Value), K.In s.heap → BindsTo s fd ⟨[u], []⟩ [(x, u)]) (hsp : ∀ H : Hp, Only H → SqL K H a (ns.map V.int) → sp [.ref a] H (fun v _ => v = .bl true) fun _ _ _ => False) (hCX : ∀ H e s', CX [] H s1 (fun _ _ _ => False) e s' → False) :
    codeAny (model P w) callerA (.call (.ref fa) ⟨[.ref a], []⟩) (fun r s' => r = .ok (.ret (.bool true)) ∧ OldK s1.heap s'.heap ∧ s'.os = s1.os ∧ AllBare s'.gens) s1 := by
  have rel := vals_ints hi
  have many := hi.length
  have from_ : ∀ H : Hp, Only H → SqL K H a (ns.map V.int) → HOk P w H s1.heap → (∀ b, H b ≠ none → b = a) → (H a ≠ none → K.lookup a = none) → codeAny (model P w) callerA (.call (.ref fa) ⟨[.ref a], []⟩) (fun r s' => r = .ok (.ret (.bool true)) ∧ OldK s1.heap s'.heap ∧ s'.os = s1.os ∧ AllBare s'.gens) s1 := by
    intro H only seq hok alone free
    have there : ∀ {b : Addr} {o : Obj}, s1.heap.get? b = some o → H b = none → (hidT s1.heap H).get? b = some o := fun e n => hidT_get e n
    have clear : ∀ {b : Addr} {o : Obj} {es : Array DictEntry} {ep : Nat}, s1.heap.get? b = some o → o.data = .dict es ep → H b = none := fun {b o es ep} e d => by
      apply Classical.byContradiction
      intro q
      have z := alone b q
      subst z
      rw [ha] at e
      cases e
      exact nomatch (show Data.seq vs.toArray _ = Data.dict es ep from d)
    have spaces : ∀ {b : Addr} {m : Str → Option Value}, s1.heap.Ns b m → (hidT s1.heap H).Ns b m := fun ⟨o, es, ep, e, d, r⟩ => ⟨o, es, ep, there e (clear e d), d, r⟩
    have part : K.In (hidT s1.heap H) := fun b o e => there (KX b o e) (by
      apply Classical.byContradiction
      intro q
      have z := alone b q
      subst z
      rw [free q] at e
      cases e)
    have md : Mod K mg (hidT s1.heap H) := ⟨part, spaces hns, ⟨mb, spaces hb, hbb⟩, let ⟨mc, h1, h2⟩ := hlim; ⟨mc, spaces h1, h2⟩⟩
    have e0 : Env0 P w K mg (hidT s1.heap H) callerA [] s1 H := ⟨rfl, md, fun b o e => of_hidT e, Nat.le_of_eq (hidT_size _ _), trivial, fun b hb => absurd (show b ∈ ([] : List Addr) from hb) (by simp), hok, .of_eq hg⟩
    refine codeAny_mono ((F _ part (spaces hns)).go callerA [] s1 H ⟨[.ref a], []⟩ [.ref a] [.ref a] _ _ hr rfl e0 (hbind s1 (.ref a) KX) (.cons rfl .nil) (hsp H only seq)) fun r s' h => ?_
    rcases r with e | fl
    · exact (hCX H e s' h).elim
    · cases fl with
      | ret u =>
        obtain ⟨v, H', os, bare, un, hok2, rv, q⟩ := h
        have q : v = .bl true := q
        subst q
        obtain rfl : u = Value.bool true := rv
        refine ⟨rfl, OldK.of_keep fun b o e => ?_, os, bare⟩
        rcases only b with z | ⟨ob, xs, z⟩
        · exact un.keep b o e z (fun y => absurd (show b ∈ ([] : List Addr) from y) (by simp)) (by simp)
        · obtain ⟨e1, _⟩ := hok b _ z
          obtain ⟨e2, _⟩ := hok2 b _ (un.frzs b ob _ z)
          rw [e] at e1
          cases e1
          exact e2
      | _ => exact False.elim h
  cases hk : K.lookup a with
  | some o =>
    have e := KX a o hk
    rw [ha] at e
    cases e
    refine from_ (fun _ => none) (fun _ => .inl rfl) (.inr ⟨_, vs.toArray, _, hk, rfl, rfl, rfl, by rw [List.size_toArray, many]; exact hl, by simpa using rel⟩) (fun b u z => nomatch (show (none : Option HO) = some u from z)) (fun b z => absurd rfl z) fun z => absurd rfl z
  | none =>
    have at_ : ∀ b, (if b = a then some (HO.frz { cls := .type "list", data := .seq vs.toArray } (.lst (ns.map V.int))) else none) ≠ none → b = a := fun b z => by
      by_cases hb : b = a
      · exact hb
      · exact absurd (if_neg hb) z
    refine from_ (fun b => if b = a then some (.frz { cls := .type "list", data := .seq vs.toArray } (.lst (ns.map V.int))) else none) (fun b => ?_) (.inl (.inr ⟨{ cls := .type "list", data := .seq vs.toArray }, if_pos rfl⟩)) (fun b u z => ?_) at_ fun _ => hk
    · by_cases hb : b = a
      · exact .inr ⟨_, _, if_pos hb⟩
      · exact .inl (if_neg hb)
    · have hb : b = a := at_ b fun y => nomatch y.symm.trans z
      subst hb
      have z2 := (if_pos rfl).symm.trans z
      cases z2
      exact ⟨ha, by rw [List.length_map]; exact hl, vs, _, rel, ha⟩
theorem walkG {l : PySem.W.OpenLaw} {n k : Nat} {q : Program} {loose : List Str} {XP : (Str → Option Value) → Heap → Prop} {YP : World → Heap → Prop} {d : DefRec} {CX : World → CXT} {x : Str} (hn : l.most = some n) (hn2 : n ≤ sizeLine) (hdf : d.params.defaults = []) (hr : Room k callerA)
    (F : ∀ (w : World) (mg : Str → Option Value) (fa : Addr) (h : Heap), YP w h → h.Ns mainGlobals mg → mg d.name = some (.ref fa) → ∃ (K : PySem.W.Frag) (fd : FuncData) (sp : Sp), K.In h ∧ (∀ (s : Shared) (u : Value), K.In s.heap → BindsTo s fd ⟨[u], []⟩ [(x, u)]) ∧
      (∀ (H : Hp) (a : Addr) (ns : List Int), ns.length ≤ n → Only H → SqL K H a (ns.map V.int) → sp [.ref a] H (fun v _ => v = .bl true) fun _ _ _ => False) ∧ ∀ base : Heap, K.In base → base.Ns mainGlobals mg → FnG l.prog w K mg base (CX w) k fa fd [x] sp)
    (hCX : ∀ (w : World) (H : Hp) (s : Shared) (e : Value) (s' : Shared), CX w [] H s (fun _ _ _ => False) e s' → False) : PySem.W.WalkO q loose XP YP l.row.toRowW d [] (fun f vs => PySem.call f vs) :=
  Att.attach_call hn hdf fun w s0 s1 mg mb fa o pm cd doc a vs ns G Y ho hd hcd hmg hobj hints hlen hg =>
    let ⟨_, _, _, KX, hb, hsp, hF⟩ := F w mg fa _ Y G.T.g hmg
    lawG KX G.T.g G.T.b G.T.builtins G.T.nolimit hg hobj hints (Nat.le_trans hlen hn2) hr hF hb (fun H hO hS => hsp H a ns hlen hO hS) fun H e s' => hCX w H s1 e s'
end Z

/-! Z7: frozen values, the calls of defs, built-ins. -/
namespace Z
open PySem PySem.Spec PyProof.Rows L2

/-! ### references filled in -/
mutual
def mapR (g : Nat → D) : D → D
  | .ref n => g n
  | .tup ds => .tup (mapRs g ds)
  | .lst ds => .lst (mapRs g ds)
  | .dct ks zs => .dct ks (mapRs g zs)
  | .dcn ks zs => .dcn ks (mapRs g zs)
  | .non => .non
  | .bl b => .bl b
  | .int i => .int i
  | .str s => .str s
  | .arg ns => .arg ns
def mapRs (g : Nat → D) : List D → List D
  | [] => []
  | d :: ds => mapR g d :: mapRs g ds
end
mutual
/-- no reference within -/
def nrf : D → Bool
  | .ref _ => false
  | .tup ds => nrfs ds
  | .lst ds => nrfs ds
  | .dct _ zs => nrfs zs
  | .dcn ks zs => nrfs ks && nrfs zs
  | _ => true
def nrfs : List D → Bool
  | [] => true
  | d :: ds => nrf d && nrfs ds
end
mutual
/-- nothing within that may change -/
def fln : D → Bool
  | .tup ds => flns ds
  | .non => true
  | .bl _ => true
  | .int _ => true
  | .str _ => true
  | _ => false
def flns : List D → Bool
  | [] => true
  | d :: ds => fln d && flns ds
end
def fz : Nat → Sto → D → D
  | 0, _ => id
  | k + 1, S => mapR fun n => match S.get n with
    | some (.lst ds) => .lst (ds.map (fz k S))
    | some (.dct ks zs) => .dct ks (zs.map (fz k S))
    | some (.dcn ks zs) => .dcn ks (zs.map (fz k S))
    | _ => .ref n
section
variable {U : Wd} {G Gt : Gh} {H : Hp}
mutual
theorem nrf_dv (hn : ∀ a, NS G a → NS Gt a) : ∀ {d : D} {v : V}, nrf d = true → DV U G H d v → DV U Gt H d v
  | .non, _, _, h => h
  | .bl _, _, _, h => h
  | .int _, _, _, h => h
  | .str _, _, _, h => h
  | .tup ds, _, k, ⟨a, vs, e, t, h⟩ => ⟨a, vs, e, t.elim (fun t => .inl ⟨t.1, hn _ t.2⟩) .inr, nrfs_dv hn (by simpa [nrf] using k) h⟩
  | .lst ds, _, k, ⟨a, vs, e, t, h⟩ => ⟨a, vs, e, ⟨t.1, hn _ t.2⟩, nrfs_dv hn (by simpa [nrf] using k) h⟩
  | .dct ks zs, _, k, ⟨a, kvs, e, t, h1, h2⟩ => ⟨a, kvs, e, ⟨t.1, hn _ t.2⟩, h1, nrfs_dv hn (by simpa [nrf] using k) h2⟩
  | .dcn ks zs, _, k, ⟨a, xs, e, t, h1, h3, h2⟩ => by
    have k : (nrfs ks && nrfs zs) = true := by simpa [nrf] using k
    obtain ⟨k1, k2⟩ := Bool.and_eq_true_iff.mp k
    exact ⟨a, xs, e, ⟨t.1, hn _ t.2⟩, h1, nrfs_dv hn k1 h3, nrfs_dv hn k2 h2⟩
  | .ref n, _, k, _ => by simp [nrf] at k
  | .arg ns, _, _, ⟨a, e, t⟩ => ⟨a, e, t.elim (fun t => .inl ⟨t.1, hn _ t.2⟩) .inr⟩
theorem nrfs_dv (hn : ∀ a, NS G a → NS Gt a) : ∀ {ds : List D} {vs : List V}, nrfs ds = true → DVs U G H ds vs → DVs U Gt H ds vs
  | [], _, _, h => h
  | d :: ds, _, k, ⟨v, r, e, h1, h2⟩ => by
    have k : (nrf d && nrfs ds) = true := by simpa [nrfs] using k
    obtain ⟨k1, k2⟩ := Bool.and_eq_true_iff.mp k
    exact ⟨v, r, e, nrf_dv hn k1 h1, nrfs_dv hn k2 h2⟩
end
mutual
theorem mapR_dv {g : Nat → D} (hn : ∀ a, NS G a → NS Gt a) (hg : ∀ n, n < G.n → nrf (g n) = true → DV U Gt H (g n) (.ref (G.ι n))) : ∀ {d : D} {v : V}, nrf (mapR g d) = true → DV U G H d v → DV U Gt H (mapR g d) v
  | .non, _, _, h => h
  | .bl _, _, _, h => h
  | .int _, _, _, h => h
  | .str _, _, _, h => h
  | .tup ds, _, k, ⟨a, vs, e, t, h⟩ => ⟨a, vs, e, t.elim (fun t => .inl ⟨t.1, hn _ t.2⟩) .inr, mapRs_dv hn hg (by simpa [nrf, mapR] using k) h⟩
  | .lst ds, _, k, ⟨a, vs, e, t, h⟩ => ⟨a, vs, e, ⟨t.1, hn _ t.2⟩, mapRs_dv hn hg (by simpa [nrf, mapR] using k) h⟩
  | .dct ks zs, _, k, ⟨a, kvs, e, t, h1, h2⟩ => ⟨a, kvs, e, ⟨t.1, hn _ t.2⟩, h1, mapRs_dv hn hg (by simpa [nrf, mapR] using k) h2⟩
  | .dcn ks zs, _, k, ⟨a, xs, e, t, h1, h3, h2⟩ => by
    have k : (nrfs ks && nrfs (mapRs g zs)) = true := by simpa [nrf, mapR] using k
    obtain ⟨k1, k2⟩ := Bool.and_eq_true_iff.mp k
    exact ⟨a, xs, e, ⟨t.1, hn _ t.2⟩, h1, nrfs_dv hn k1 h3, mapRs_dv hn hg k2 h2⟩
  | .ref n, _, k, ⟨h, e⟩ => by subst e; exact hg n h (by simpa [mapR] using k)
  | .arg ns, _, _, ⟨a, e, t⟩ => ⟨a, e, t.elim (fun t => .inl ⟨t.1, hn _ t.2⟩) .inr⟩
theorem mapRs_dv {g : Nat → D} (hn : ∀ a, NS G a → NS Gt a) (hg : ∀ n, n < G.n → nrf (g n) = true → DV U Gt H (g n) (.ref (G.ι n))) : ∀ {ds : List D} {vs : List V}, nrfs (mapRs g ds) = true → DVs U G H ds vs → DVs U Gt H (mapRs g ds) vs
  | [], _, _, h => h
  | d :: ds, _, k, ⟨v, r, e, h1, h2⟩ => by
    have k : (nrf (mapR g d) && nrfs (mapRs g ds)) = true := by simpa [nrfs, mapRs] using k
    obtain ⟨k1, k2⟩ := Bool.and_eq_true_iff.mp k
    exact ⟨v, r, e, mapR_dv hn hg k1 h1, mapRs_dv hn hg k2 h2⟩
end
theorem map_dv {f : D → D} (hf : ∀ {d v}, nrf (f d) = true → DV U G H d v → DV U Gt H (f d) v) : ∀ {ds : List D} {vs : List V}, nrfs (ds.map f) = true → DVs U G H ds vs → DVs U Gt H (ds.map f) vs
  | [], _, _, h => h
  | d :: ds, _, k, ⟨v, r, e, h1, h2⟩ => by
    have k : (nrf (f d) && nrfs (ds.map f)) = true := by simpa [nrfs] using k
    obtain ⟨k1, k2⟩ := Bool.and_eq_true_iff.mp k
    exact ⟨v, r, e, hf k1 h1, map_dv hf k2 h2⟩
theorem fz_dv {S : Sto} (rs : RelS U G S H) (hn : ∀ a, NS G a → NS Gt a) (hi : ∀ n, n < G.n → NS Gt (G.ι n)) : ∀ (k : Nat) {d : D} {v : V}, nrf (fz k S d) = true → DV U G H d v → DV U Gt H (fz k S d) v
  | 0, _, _, h, q => nrf_dv hn h q
  | k + 1, _, _, h, q => mapR_dv hn (fun n hl hr => by
      cases e : S.get n with
      | none => rw [e] at hr; simp [nrf] at hr
      | some o =>
        rw [e] at hr
        have z := rs.at_ n o e
        cases o with
        | lst ds =>
          obtain ⟨vs, e1, q⟩ := z
          exact ⟨_, vs, rfl, ⟨.inl e1, hi n hl⟩, map_dv (fun h q => fz_dv rs hn hi k h q) (by simpa [nrf] using hr) q⟩
        | dct ks zs =>
          obtain ⟨kvs, e1, q1, q⟩ := z
          exact ⟨_, kvs, rfl, ⟨e1, hi n hl⟩, q1, map_dv (fun h q => fz_dv rs hn hi k h q) (by simpa [nrf] using hr) q⟩
        | dcn ks zs =>
          obtain ⟨xs, e1, q1, q3, q⟩ := z
          have hr : (nrfs ks && nrfs (zs.map (fz k S))) = true := by simpa [nrf] using hr
          obtain ⟨k1, k2⟩ := Bool.and_eq_true_iff.mp hr
          exact ⟨_, xs, rfl, ⟨e1, hi n hl⟩, q1, nrfs_dv hn k1 q3, map_dv (fun h q => fz_dv rs hn hi k h q) k2 q⟩
        | ins c fs => simp [nrf] at hr
        | tbl _ => simp [nrf] at hr
        | bag b => simp [nrf] at hr) h q
mutual
theorem fln_dv (hn : ∀ a xs, Rd H a (.tup xs) → NS Gt a) : ∀ {d : D} {v : V}, fln d = true → DV U G H d v → DV U Gt H d v
  | .non, _, _, h => h
  | .bl _, _, _, h => h
  | .int _, _, _, h => h
  | .str _, _, _, h => h
  | .tup ds, _, k, ⟨a, vs, e, t, h⟩ => ⟨a, vs, e, t.elim (fun t => .inl ⟨t.1, hn _ _ t.1.rd⟩) .inr, flns_dv hn (by simpa [fln] using k) h⟩
  | .lst ds, _, k, _ => by simp [fln] at k
  | .dct ks zs, _, k, _ => by simp [fln] at k
  | .dcn ks zs, _, k, _ => by simp [fln] at k
  | .ref n, _, k, _ => by simp [fln] at k
  | .arg ns, _, k, _ => by simp [fln] at k
theorem flns_dv (hn : ∀ a xs, Rd H a (.tup xs) → NS Gt a) : ∀ {ds : List D} {vs : List V}, flns ds = true → DVs U G H ds vs → DVs U Gt H ds vs
  | [], _, _, h => h
  | d :: ds, _, k, ⟨v, r, e, h1, h2⟩ => by
    have k : (fln d && flns ds) = true := by simpa [flns] using k
    obtain ⟨k1, k2⟩ := Bool.and_eq_true_iff.mp k
    exact ⟨v, r, e, fln_dv hn k1 h1, flns_dv hn k2 h2⟩
end
end

/-! ### what a def does, as a function -/
abbrev Fn := List D → Sto → R D
def spV (U : Wd) (n : Nat) (F : Fn) : Sp := fun vs H Q E => vs.length = n ∧ ∃ G S ds, RelS U G S H ∧ DVs U G H ds vs ∧ Go (DV U) U (fun cls dd _ H' => E cls dd H') [] G H (F ds S) Q
/-- arguments without references, the def's own store, the result taken out of it -/
def fnA (F : Fn) : Fn := fun ds S => if nrfs ds = true then (match F ds Sto.nil with
  | .ok d S1 => let d' := if nrf d = true then d else fz 6 S1 d
    if nrf d' = true then .ok d' S else .bad
  | .ex x _ => if nrfs (x.fs.map (·.2)) = true then .ex x S else .bad
  | .bad => .bad) else .bad
/-- arguments as they stand, the result without lists -/
def fnB (F : Fn) : Fn := fun ds S => let ds' := if nrfs ds = true then ds else ds.map (fz 6 S)
  if nrfs ds' = true then (match F ds' Sto.nil with
  | .ok d _ => if fln d = true then .ok d S else .bad
  | .ex x _ => if flns (x.fs.map (·.2)) = true then .ex x S else .bad
  | .bad => .bad) else .bad
theorem relS_nil {U : Wd} {G : Gh} {H : Hp} (hn : G.n = 0) (hh : ∀ a, G.hid a → ∃ u, H a = Option.some u ∧ Chg U a u) : RelS U G Sto.nil H where
  wf := rfl
  n := hn
  at_ := fun i o e => by unfold Sto.get Sto.nil at e; simp at e
  inj := fun i j h => by rw [hn] at h; omega
  hid := hh
  dis := fun i h => by rw [hn] at h; omega
/-- behind a step from a ghost without a store: all stays -/
theorem step_of0 {U : Wd} {G G0 G1 : Gh} {S : Sto} {H H1 : Hp} (rs : RelS U G S H) (s : Step G0 H G1 H1) (hk : ∀ a, NS G0 a ∨ G0.hid a) : Step G H G H1 ∧ RelS U G S H1 := by
  have keep : ∀ a o, H a = some o → H1 a = some o := fun a o e => s.keep a o e (hk a)
  have st : Step G H G H1 := ⟨fun a o e _ => keep a o e, fun _ h => h, fun _ h => .inl h, Nat.le_refl _, fun _ _ => rfl, fun i h1 h2 => absurd h2 (Nat.not_lt.mpr h1), fun i _ ⟨o, e⟩ => ⟨o, keep _ _ e⟩⟩
  refine ⟨st, rs.wf, rs.n, fun i o e => ?_, rs.inj, fun a z => ?_, rs.dis⟩
  · have z := rs.at_ i o e
    obtain ⟨u, hu, _⟩ := z.some
    exact z.mono st ((keep _ _ hu).trans hu.symm)
  · obtain ⟨u, hu, c⟩ := rs.hid a z
    exact ⟨u, keep _ _ hu, c⟩
theorem map_snd_eq {α β : Type} {l : List (α × β)} : l.map (·.2) = (l.map (·.2)) := rfl
theorem spV_A {U : Wd} {n : Nat} {F : Fn} {vs : List V} {H : Hp} {Q : VK} {E : XK} (h : spV U n (fnA F) vs H Q E) : spV U n F vs H Q E := by
  obtain ⟨hl, G, S, ds, rs, q, g⟩ := h
  unfold fnA at g
  split at g
  · rename_i hnr
    have hk : ∀ a, NS (⟨0, fun _ => 0, fun a => G.hid a ∨ ∃ i, i < G.n ∧ G.ι i = a⟩ : Gh) a ∨ (G.hid a ∨ ∃ i, i < G.n ∧ G.ι i = a) := fun a => by
      by_cases z : (G.hid a ∨ ∃ i, i < G.n ∧ G.ι i = a)
      · exact .inr z
      · exact .inl ⟨fun i hi => absurd hi (Nat.not_lt_zero i), z⟩
    have n1 : ∀ a, NS G a → NS (⟨0, fun _ => 0, fun a => G.hid a ∨ ∃ i, i < G.n ∧ G.ι i = a⟩ : Gh) a := fun a z => ⟨fun i hi => absurd hi (Nat.not_lt_zero i), fun w => w.elim z.2 fun ⟨i, hi, e⟩ => z.1 i hi e⟩
    refine ⟨hl, ⟨0, fun _ => 0, fun a => G.hid a ∨ ∃ i, i < G.n ∧ G.ι i = a⟩, Sto.nil, ds, relS_nil rfl (fun a z => ?_), nrfs_dv n1 hnr q, ?_⟩
    · rcases z with z | ⟨i, hi, e⟩
      · exact rs.hid a z
      · rw [← e]; exact rs.some hi
    · cases e : F ds Sto.nil with
      | bad => rw [e] at g; exact g.elim
      | ok d S1 =>
        rw [e] at g
        dsimp only at g
        intro G1 v H1 s r dv
        obtain ⟨st, rs1⟩ := step_of0 rs s hk
        have n2 : ∀ a, NS G1 a → NS G a := fun a z => by
          have z2 : ¬ (G.hid a ∨ ∃ i, i < G.n ∧ G.ι i = a) := fun w => z.2 (s.hid a w)
          exact ⟨fun i hi e => z2 (.inr ⟨i, hi, e⟩), fun w => z2 (.inl w)⟩
        have n3 : ∀ i, i < G1.n → NS G (G1.ι i) := fun i hi => rs.ns (s.new i (Nat.zero_le _) hi)
        by_cases hd : nrf d = true
        · rw [if_pos hd, if_pos hd] at g
          exact g G v H1 st rs1 (nrf_dv n2 hd dv)
        · rw [if_neg hd] at g
          by_cases hf : nrf (fz 6 S1 d) = true
          · rw [if_pos hf] at g
            exact g G v H1 st rs1 (fz_dv r n2 n3 6 hf dv)
          · rw [if_neg hf] at g; exact g.elim
      | ex x S1 =>
        rw [e] at g
        dsimp only at g
        by_cases hx : nrfs (x.fs.map (·.2)) = true
        · rw [if_pos hx] at g
          intro G1 H1 cls dd s r xv
          obtain ⟨st, rs1⟩ := step_of0 rs s hk
          have n2 : ∀ a, NS G1 a → NS G a := fun a z => by
            have z2 : ¬ (G.hid a ∨ ∃ i, i < G.n ∧ G.ι i = a) := fun w => z.2 (s.hid a w)
            exact ⟨fun i hi e => z2 (.inr ⟨i, hi, e⟩), fun w => z2 (.inl w)⟩
          refine g G H1 cls dd st rs1 ?_
          obtain ⟨C, h1, h2, h3⟩ := xv
          refine ⟨C, h1, h2, h3.elim .inl fun ⟨d, fvs, a1, a2, a3, a4, a5⟩ => .inr ⟨d, fvs, a1, a2, n2 _ a3, a4, nrfs_dv n2 hx a5⟩⟩
        · rw [if_neg hx] at g; exact g.elim
  · exact g.elim
theorem RelS.ns_of {U : Wd} {G : Gh} {S : Sto} {H : Hp} (r : RelS U G S H) {p : Addr} {u : HO} (h : H p = Option.some u) (hu : chg u = false) : NS G p := by
  refine ⟨fun i hi e => ?_, fun z => ?_⟩
  · obtain ⟨w, q, m⟩ := r.some hi
    rw [e, h] at q; cases q; have m := m.1; rw [hu] at m; cases m
  · obtain ⟨w, q, m⟩ := r.hid p z
    rw [h] at q; cases q; have m := m.1; rw [hu] at m; cases m
theorem spV_B {U : Wd} {n : Nat} {F : Fn} {vs : List V} {H : Hp} {Q : VK} {E : XK} (h : spV U n (fnB F) vs H Q E) : spV U n F vs H Q E := by
  obtain ⟨hl, G, S, ds, rs, q, g⟩ := h
  unfold fnB at g
  have hns : ∀ a, NS (⟨0, fun _ => 0, fun _ => False⟩ : Gh) a := fun a => ⟨fun i hi => absurd hi (Nat.not_lt_zero i), fun z => z⟩
  obtain ⟨ds', eds, q'⟩ : ∃ ds', ds' = (if nrfs ds = true then ds else ds.map (fz 6 S)) ∧ (nrfs ds' = true → DVs U (⟨0, fun _ => 0, fun _ => False⟩ : Gh) H ds' vs) := by
    refine ⟨_, rfl, fun h => ?_⟩
    by_cases hn : nrfs ds = true
    · rw [if_pos hn] at h ⊢; exact nrfs_dv (fun a _ => hns a) h q
    · rw [if_neg hn] at h ⊢; exact map_dv (fun h q => fz_dv rs (fun a _ => hns a) (fun i _ => hns _) 6 h q) h q
  rw [← eds] at g
  dsimp only at g
  split at g
  · rename_i hnr
    refine ⟨hl, ⟨0, fun _ => 0, fun _ => False⟩, Sto.nil, ds', relS_nil rfl (fun a z => z.elim), q' hnr, ?_⟩
    cases e : F ds' Sto.nil with
    | bad => rw [e] at g; exact g.elim
    | ok d S1 =>
      rw [e] at g
      dsimp only at g
      by_cases hd : fln d = true
      · rw [if_pos hd] at g
        intro G1 v H1 s r dv
        obtain ⟨st, rs1⟩ := step_of0 rs s fun a => .inl (hns a)
        exact g G v H1 st rs1 (fln_dv (fun a xs => rs1.ns_tup) hd dv)
      · rw [if_neg hd] at g; exact g.elim
    | ex x S1 =>
      rw [e] at g
      dsimp only at g
      by_cases hx : flns (x.fs.map (·.2)) = true
      · rw [if_pos hx] at g
        intro G1 H1 cls dd s r xv
        obtain ⟨st, rs1⟩ := step_of0 rs s fun a => .inl (hns a)
        refine g G H1 cls dd st rs1 ?_
        obtain ⟨C, h1, h2, h3⟩ := xv
        exact ⟨C, h1, h2, h3.elim .inl fun ⟨d, fvs, a1, a2, a3, a4, a5⟩ => .inr ⟨d, fvs, a1, a2, rs1.ns_of a2 rfl, a4, flns_dv (fun a xs => rs1.ns_tup) hx a5⟩⟩
      · rw [if_neg hx] at g; exact g.elim
  · exact g.elim

/-- a def -/
def FS (P : Program) (w : World) (K : PySem.W.Frag) (mg : Str → Option Value) (base : Heap) (k : Nat) (f : Addr) (fd : FuncData) (ps : List Str) (F : Fn) : Prop := FnG P w K mg base (L2.CX P w) k f fd ps (spV ⟨P, w, K, mg⟩ ps.length F)
section
variable {P : Program} {w : World} {K : PySem.W.Frag} {mg : Str → Option Value} {base : Heap} {j k : Nat} {f : Addr} {fd : FuncData} {ps : List Str} {F : Fn}
theorem FS.mono (h : FS P w K mg base j f fd ps F) (l : j ≤ k) : FS P w K mg base k f fd ps F := FnG.mono h l
theorem FS.A (h : FS P w K mg base k f fd ps F) : FS P w K mg base k f fd ps (fnA F) := FnG.imp h fun _ _ _ _ => spV_A
theorem FS.B (h : FS P w K mg base k f fd ps F) : FS P w K mg base k f fd ps (fnB F) := FnG.imp h fun _ _ _ _ => spV_B
/-- a def that answers as one says who can tell it by each store -/
theorem FS.imp {F' : Fn} (h : FS P w K mg base k f fd ps F) (i : ∀ ds S, F' ds S = .bad ∨ F' ds S = F ds S) : FS P w K mg base k f fd ps F' := FnG.imp h fun vs H Q E ⟨hl, G, S, ds, rs, q, g⟩ => ⟨hl, G, S, ds, rs, q, by
  rcases i ds S with e | e
  · rw [e] at g; exact g.elim
  · rw [e] at g; exact g⟩
end
theorem go_call {U : Wd} {W : WX} {σ : L2.St} {G : Gh} {H : Hp} {r : R D} {Q : VK} (g : GoD U W σ G H r Q) : Go (DV U) U (fun cls dd _ H' => WE W σ cls dd H') [] G H r Q := by
  cases r with
  | ok d S => exact g
  | ex x S => exact g
  | bad => exact g
section
variable {X : Cx} {pos : Pos}
def eCall (n : Nat) (F : Fn) (ma : As) : E := fun ρ S => (ma ρ S).bind fun ds S => if ds.length = n then F ds S else .bad
theorem ce_call {k : Nat} {f : Addr} {fd : FuncData} {ps : List Str} {F : Fn} {x : Str} {p : Pos} {e : Expr} {es : List Expr} {ma : As} (hF : FS X.prog X.w X.K X.mg X.base k f fd ps F) (hr : Room k X.A) (hgd : X.A.guards = some []) (hg : Gl X x) (hm : X.mg x = some (.ref f)) (hk : PySem.W.keepIn X.K (.ref f) = true) (hb : Binds X.K fd ps [])
    (ha : CA X (e :: es) ma) (hdb : (x == ("__debug__" : Str)) = false := by decide) (he : starEach (e :: es) X.env = (false, eval e X.env) :: starEach es X.env := by rfl) (hpl : (backTo pos (starEach es X.env)).any (·.1) = false := by rfl) :
    CE X (.Call (.Name x p) (e :: es) [] pos) (eCall ps.length F ma) := fun W tk => PE.imp (pe_callG (E := WE W) hF hr hgd hg hm hk hb (fun σ => passAt tk σ) (ha W tk) hdb he hpl) fun σ H Q ⟨G, ρ, S, rs, re, h⟩ => by
  obtain ⟨G0, ρ0, S0, a, b, c⟩ := tAv.bind rs re h
  refine ⟨G0, ρ0, S0, a, b, Go.mono c fun vs H1 ⟨G1, ds, S1, s, rs1, re1, dvs, g⟩ => ?_⟩
  split at g
  · rename_i hl
    exact ⟨by rw [dvs.length]; exact hl, G1, S1, ds, rs1, dvs, go_call g⟩
  · exact g.elim
/-! ### built-ins by name -/
def rL (U : Wd) (g : Fn) (W : WX) (σ : L2.St) : List V → Hp → VK → Prop := fun xs H Q => ∃ G S ds, RelS U G S H ∧ DVs U G H ds xs ∧ GoD U W σ G H (g ds S) Q
def CB (X : Cx) (f : Value) (g : Fn) : Prop := ∀ W σ, CallR X f (rL (wd X) g W σ)
def eB (g : Fn) (ma : As) : E := fun ρ S => (ma ρ S).bind fun ds S => g ds S
theorem eB_reads {U : Wd} {g : Fn} {ma : As} {W : WX} {σ : L2.St} {H : Hp} {Q : VK} (h : tEv U (eB g ma) W σ H Q) : tAv U ma W σ H fun vs H1 => rL U g W σ vs H1 Q := by
  obtain ⟨G, ρ, S, rs, re, h⟩ := h
  obtain ⟨G0, ρ0, S0, a, b, c⟩ := tAv.bind rs re h
  exact ⟨G0, ρ0, S0, a, b, Go.mono c fun vs H1 ⟨G1, ds, S1, s, rs1, re1, dvs, g⟩ => ⟨G1, S1, ds, rs1, dvs, g⟩⟩
/-- what a built-in is asked may hang on the frame's own exceptions: a fixed wish serves -/
theorem CallR.at {f : Value} {r : L2.St → List V → Hp → VK → Prop} (h : ∀ σ, CallR X f (r σ)) {pins : List (Addr × Obj)} {s : Shared} {σ : L2.St} {H : Hp} {xs : List V} {us : List Value} {Q : VK} (I : Inv X pins σ H s) (rv : Vals xs us) (q : r σ xs H Q) :
    wpAny (model X.prog X.w) X.A (call f us) (EP X pins σ Q) X.xe s := h σ pins s σ H xs us Q I rv q
theorem ce_B {id : String} {x : Str} {g : Fn} {p : Pos} {e : Expr} {es : List Expr} {ma : As} (hc : CB X (.builtin id) g) (hg : Gl X x) (hm : X.mg x = none) (hv : bootBuiltins x = some (.builtin id)) (ha : CA X (e :: es) ma) (hn : x ≠ "__name__" := by decide) (hdb : (x == ("__debug__" : Str)) = false := by decide) (he : starEach (e :: es) X.env = (false, eval e X.env) :: starEach es X.env := by rfl) (hpl : (backTo pos (starEach es X.env)).any (·.1) = false := by rfl) :
    CE X (.Call (.Name x p) (e :: es) [] pos) (eB g ma) := fun W tk => ⟨fun pins s σ H Q I h => (pe_callB (hc W σ) hg hm hv (ha W tk) hn hdb he hpl).run pins s σ H Q I (eB_reads h)⟩
theorem ce_Ty {T : String} {x : Str} {g : Fn} {p : Pos} {e : Expr} {es : List Expr} {ma : As} (hc : CB X (.type T) g) (hg : Gl X x) (hm : X.mg x = none) (hv : bootBuiltins x = some (.type T)) (ha : CA X (e :: es) ma) (hn : x ≠ "__name__" := by decide) (hdb : (x == ("__debug__" : Str)) = false := by decide) (he : starEach (e :: es) X.env = (false, eval e X.env) :: starEach es X.env := by rfl) (hpl : (backTo pos (starEach es X.env)).any (·.1) = false := by rfl) :
    CE X (.Call (.Name x p) (e :: es) [] pos) (eB g ma) := fun W tk => ⟨fun pins s σ H Q I h => (pe_callTy (hc W σ) hg hm hv (ha W tk) hn hdb he hpl).run pins s σ H Q I (eB_reads h)⟩
end
end Z

/-! Z8: statements. -/
namespace Z
open PySem PySem.Spec PyProof.Rows L2

def GoS (U : Wd) (W : WX) (G : Gh) (H : Hp) (r : RS) (D : Ends) : Prop := match r with
  | .nx ρ S => ∀ G' σ' H', Step G H G' H' → RelS U G' S H' → RelE U G' ρ σ' H' → D.nx σ' H'
  | .bk ρ S => ∀ G' σ' H', Step G H G' H' → RelS U G' S H' → RelE U G' ρ σ' H' → D.bk σ' H'
  | .ct ρ S => ∀ G' σ' H', Step G H G' H' → RelS U G' S H' → RelE U G' ρ σ' H' → D.ct σ' H'
  | .rt d S => ∀ G' v H', Step G H G' H' → RelS U G' S H' → DV U G' H' d v → D.rt v H'
  | .ex x ρ S => ∀ G' σ' H' cls dd, Step G H G' H' → RelS U G' S H' → RelE U G' ρ σ' H' → XV U G' H' x cls dd → W cls dd σ' H'
  | .bad => False
theorem GoS.step {U : Wd} {W : WX} {G G1 : Gh} {H H1 : Hp} {r : RS} {D : Ends} (s : Step G H G1 H1) (h : GoS U W G H r D) : GoS U W G1 H1 r D := by
  cases r with
  | nx ρ S => exact fun G' σ' H' s' => h G' σ' H' (s.trans s')
  | bk ρ S => exact fun G' σ' H' s' => h G' σ' H' (s.trans s')
  | ct ρ S => exact fun G' σ' H' s' => h G' σ' H' (s.trans s')
  | rt d S => exact fun G' v H' s' => h G' v H' (s.trans s')
  | ex x ρ S => exact fun G' σ' H' c dd s' => h G' σ' H' c dd (s.trans s')
  | bad => exact h
theorem RelE.set {U : Wd} {G : Gh} {ρ : Env} {σ : L2.St} {H : Hp} {d : D} {v : V} (re : RelE U G ρ σ H) (i : Nat) (q : DV U G H d v) : RelE U G (ρ.set i (some d)) (σ.set i (some v)) H := by
  refine ⟨by rw [List.length_set, List.length_set]; exact re.1, fun j e h => ?_⟩
  rw [List.getElem?_set] at h ⊢
  by_cases hj : i = j
  · rw [if_pos hj] at h ⊢
    by_cases hl : i < ρ.length
    · rw [if_pos hl] at h
      rw [if_pos (by rw [← re.1]; exact hl)]
      cases h
      exact ⟨v, rfl, q⟩
    · rw [if_neg hl] at h; cases h
  · rw [if_neg hj] at h ⊢
    exact re.2 j e h
def tSv (U : Wd) (m : C) (W : WX) : TS := fun D σ H => ∃ G ρ S, RelS U G S H ∧ RelE U G ρ σ H ∧ GoS U W G H (m ρ S) D
def CS (X : Cx) (st : Stmt) (m : C) : Prop := ∀ W, Takes X W → PS X st (tSv (wd X) m W)
def CSs (X : Cx) (sts : List Stmt) (m : C) : Prop := ∀ W, Takes X W → PSs X sts (tSv (wd X) m W)
theorem PS.imp {X : Cx} {e : Stmt} {t t' : TS} (h : PS X e t) (i : ∀ D σ H, t' D σ H → t D σ H) : PS X e t' := ⟨fun p s σ H D I q => h.run p s σ H D I (i D σ H q)⟩
theorem PSs.imp {X : Cx} {e : List Stmt} {t t' : TS} (h : PSs X e t) (i : ∀ D σ H, t' D σ H → t D σ H) : PSs X e t' := ⟨fun p s σ H D I q => h.run p s σ H D I (i D σ H q)⟩

/-- a result's value, then a statement -/
def R.toS {α : Type} (r : R α) (ρ : Env) (k : α → Sto → RS) : RS := match r with
  | .ok a S => k a S
  | .ex x S => .ex x ρ S
  | .bad => .bad
theorem GoS.bind {α α' : Type} {rel : Gh → Hp → α → α' → Prop} {U : Wd} {W : WX} {σ : L2.St} {G : Gh} {H : Hp} {ρ : Env} {r : R α} {k : α → Sto → RS} {D : Ends} (re : RelE U G ρ σ H) (h : GoS U W G H (r.toS ρ k) D) :
    Go rel U W σ G H r (fun v H1 => ∃ G1 a S1, Step G H G1 H1 ∧ RelS U G1 S1 H1 ∧ RelE U G1 ρ σ H1 ∧ rel G1 H1 a v ∧ GoS U W G1 H1 (k a S1) D) := by
  cases r with
  | ok d S => exact fun G' v H' s r q => ⟨G', d, S, s, r, re.mono s, q, GoS.step s h⟩
  | ex x S => exact fun G' H' c dd s r q => h G' σ H' c dd s r (re.mono s) q
  | bad => exact h
theorem tEv.toS {U : Wd} {m : E} {W : WX} {σ : L2.St} {H : Hp} {G : Gh} {ρ : Env} {S : Sto} {k : D → Sto → RS} {D : Ends} (rs : RelS U G S H) (re : RelE U G ρ σ H) (h : GoS U W G H ((m ρ S).toS ρ k) D) :
    tEv U m W σ H (fun v H1 => ∃ G1 a S1, Step G H G1 H1 ∧ RelS U G1 S1 H1 ∧ RelE U G1 ρ σ H1 ∧ DV U G1 H1 a v ∧ GoS U W G1 H1 (k a S1) D) := ⟨G, ρ, S, rs, re, GoS.bind re h⟩
theorem tTv.toS {U : Wd} {m : T} {W : WX} {σ : L2.St} {H : Hp} {G : Gh} {ρ : Env} {S : Sto} {k : Bool → Sto → RS} {D : Ends} (rs : RelS U G S H) (re : RelE U G ρ σ H) (h : GoS U W G H ((m ρ S).toS ρ k) D) :
    tTv U m W σ H (fun b H1 => ∃ G1 S1, Step G H G1 H1 ∧ RelS U G1 S1 H1 ∧ RelE U G1 ρ σ H1 ∧ GoS U W G1 H1 (k b S1) D) :=
  ⟨G, ρ, S, rs, re, Go.mono (GoS.bind (rel := relB) re h) fun v H1 ⟨G1, a, S1, s, r, e, q, g⟩ => ⟨G1, S1, s, r, e, by cases (show a = v from q); exact g⟩⟩
theorem tAv.toS {U : Wd} {m : As} {W : WX} {σ : L2.St} {H : Hp} {G : Gh} {ρ : Env} {S : Sto} {k : List D → Sto → RS} {D : Ends} (rs : RelS U G S H) (re : RelE U G ρ σ H) (h : GoS U W G H ((m ρ S).toS ρ k) D) :
    tAv U m W σ H (fun v H1 => ∃ G1 a S1, Step G H G1 H1 ∧ RelS U G1 S1 H1 ∧ RelE U G1 ρ σ H1 ∧ DVs U G1 H1 a v ∧ GoS U W G1 H1 (k a S1) D) := ⟨G, ρ, S, rs, re, GoS.bind (rel := relA U) re h⟩

section
variable {X : Cx} {pos : Pos} {W : WX}
theorem GoS.nx_ {U : Wd} {G : Gh} {H : Hp} {ρ : Env} {S : Sto} {D : Ends} {σ : L2.St} (h : GoS U W G H (.nx ρ S) D) (rs : RelS U G S H) (re : RelE U G ρ σ H) : D.nx σ H := h G σ H Step.refl rs re
/-! ### rows -/
def sNx : C := fun ρ S => .nx ρ S
def sBad : C := fun _ _ => .bad
def sSeq (a b : C) : C := fun ρ S => match a ρ S with
  | .nx ρ' S' => b ρ' S'
  | r => r
theorem css_nil : CSs X [] sNx := fun W tk => PSs.imp pss_nil fun D σ H ⟨G, ρ, S, rs, re, h⟩ => GoS.nx_ h rs re
theorem sSeq_reads {U : Wd} {a b : C} {D : Ends} {σ : L2.St} {H : Hp} (h : tSv U (sSeq a b) W D σ H) : tSv U a W { D with nx := tSv U b W D } σ H := by
  obtain ⟨G, ρ, S, rs, re, h⟩ := h
  refine ⟨G, ρ, S, rs, re, ?_⟩
  unfold sSeq at h
  cases e : a ρ S with
  | nx ρ' S' => rw [e] at h; exact fun G' σ' H' s r q => ⟨G', ρ', S', r, q, GoS.step s h⟩
  | rt d S' => rw [e] at h; exact h
  | bk ρ' S' => rw [e] at h; exact h
  | ct ρ' S' => rw [e] at h; exact h
  | ex x ρ' S' => rw [e] at h; exact h
  | bad => rw [e] at h; exact h
theorem css_cons {st : Stmt} {sts : List Stmt} {a b : C} (ha : CS X st a) (hb : CSs X sts b) : CSs X (st :: sts) (sSeq a b) := fun W tk => PSs.imp (pss_cons (ha W tk) (hb W tk)) fun D σ H h => sSeq_reads h
theorem css_one {st : Stmt} {a : C} (ha : CS X st a) : CSs X [st] a := fun W tk => pss_one (ha W tk)
theorem cs_bad {st : Stmt} : CS X st sBad := fun W tk => PS.imp ps_never fun D σ H ⟨G, ρ, S, rs, re, h⟩ => h
theorem css_bad {sts : List Stmt} : CSs X sts sBad := fun W tk => PSs.imp pss_never fun D σ H ⟨G, ρ, S, rs, re, h⟩ => h
theorem cs_pass : CS X (.Pass pos) sNx := fun W tk => PS.imp ps_pass fun D σ H ⟨G, ρ, S, rs, re, h⟩ => GoS.nx_ h rs re
def sBk : C := fun ρ S => .bk ρ S
def sCt : C := fun ρ S => .ct ρ S
theorem cs_break : CS X (.Break pos) sBk := fun W tk => PS.imp ps_break fun D σ H ⟨G, ρ, S, rs, re, h⟩ => h G σ H Step.refl rs re
theorem cs_continue : CS X (.Continue pos) sCt := fun W tk => PS.imp ps_continue fun D σ H ⟨G, ρ, S, rs, re, h⟩ => h G σ H Step.refl rs re
/-! ### plain statements -/
def sE (m : E) : C := fun ρ S => (m ρ S).toS ρ fun _ S => .nx ρ S
def sRet (m : E) : C := fun ρ S => (m ρ S).toS ρ fun d S => .rt d S
def sRetN : C := fun _ S => .rt .non S
def sSet (i : Nat) (m : E) : C := fun ρ S => (m ρ S).toS ρ fun d S => .nx (ρ.set i (some d)) S
def sIf (t : T) (a b : C) : C := fun ρ S => (t ρ S).toS ρ fun c S => if c = true then a ρ S else b ρ S
theorem cs_expr {e : Expr} {m : E} (he : CE X e m) (hs : swapsWith e none pos.line X.env = pure false := by rfl) : CS X (.Expr e pos) (sE m) := fun W tk => PS.imp (ps_expr (he W tk) hs) fun D σ H ⟨G, ρ, S, rs, re, h⟩ => by
  obtain ⟨G0, ρ0, S0, a, b, c⟩ := tEv.toS rs re h
  exact ⟨G0, ρ0, S0, a, b, Go.mono c fun v H1 ⟨G1, d, S1, s, rs1, re1, dv, g⟩ => GoS.nx_ g rs1 re1⟩
theorem cs_ret {e : Expr} {m : E} (he : CE X e m) : CS X (.Return (some e) pos) (sRet m) := fun W tk => PS.imp (ps_ret (he W tk)) fun D σ H ⟨G, ρ, S, rs, re, h⟩ => by
  obtain ⟨G0, ρ0, S0, a, b, c⟩ := tEv.toS rs re h
  exact ⟨G0, ρ0, S0, a, b, Go.mono c fun v H1 ⟨G1, d, S1, s, rs1, re1, dv, g⟩ => g G1 v H1 Step.refl rs1 dv⟩
theorem cs_retN : CS X (.Return none pos) sRetN := fun W tk => PS.imp ps_retN fun D σ H ⟨G, ρ, S, rs, re, h⟩ => h G .non H Step.refl rs rfl
theorem cs_set (i : Nat) {x : Str} {e : Expr} {m : E} {pos' : Pos} (hN : X.N.Nodup) (he : CE X e m) (hi : X.N[i]? = some x := by rfl) (hx : Loc X.env.scope x := by first | exact .inl rfl | exact .inr rfl) (hs : swapsWith e (some (.Name x pos')) pos.line X.env = pure false := by rfl) (hf : X.fn x = true ∨ X.env.scope.names.lookup x = some .local := by first | exact .inr rfl | exact .inl rfl) : CS X (.Assign [.Name x pos'] e pos) (sSet i m) := fun W tk =>
  PS.imp (ps_set hN hi hx (he W tk) hs hf) fun D σ H ⟨G, ρ, S, rs, re, h⟩ => by
    obtain ⟨G0, ρ0, S0, a, b, c⟩ := tEv.toS rs re h
    exact ⟨G0, ρ0, S0, a, b, Go.mono c fun v H1 ⟨G1, d, S1, s, rs1, re1, dv, g⟩ => GoS.nx_ g rs1 (re1.set i dv)⟩
theorem cs_if {e : Expr} {p q : List Stmt} {t : T} {a b : C} (he : CT X e t) (ha : CSs X p a) (hb : CSs X q b) : CS X (.If e p q pos) (sIf t a b) := fun W tk => PS.imp (ps_if (he W tk) (ha W tk) (hb W tk)) fun D σ H ⟨G, ρ, S, rs, re, h⟩ => by
  obtain ⟨G0, ρ0, S0, x, y, z⟩ := tTv.toS rs re h
  refine ⟨G0, ρ0, S0, x, y, Go.mono z fun v H1 ⟨G1, S1, s, rs1, re1, g⟩ => ?_⟩
  by_cases e : v = true
  · rw [if_pos e] at g ⊢; exact ⟨G1, ρ, S1, rs1, re1, g⟩
  · rw [if_neg e] at g ⊢; exact ⟨G1, ρ, S1, rs1, re1, g⟩

/-! ### targets -/
abbrev Tg := D → Env → Sto → Option Env
/-- only the slots at sl may differ -/
def Diff (sl : List Nat) (σ σ' : L2.St) : Prop := σ'.length = σ.length ∧ ∀ i, i ∉ sl → σ'[i]? = σ[i]?
theorem Diff.refl {sl : List Nat} {σ : L2.St} : Diff sl σ σ := ⟨rfl, fun _ _ => rfl⟩
theorem Diff.trans {a b : List Nat} {σ σ1 σ2 : L2.St} (h : Diff a σ σ1) (k : Diff b σ1 σ2) : Diff (a ++ b) σ σ2 :=
  ⟨k.1.trans h.1, fun i hi => (k.2 i fun z => hi (List.mem_append_right _ z)).trans (h.2 i fun z => hi (List.mem_append_left _ z))⟩
def okT (U : Wd) (sl : List Nat) (σ : L2.St) (G : Gh) (H : Hp) (r : Option Env) (Q : L2.St → Hp → Prop) : Prop := match r with
  | some ρ' => ∀ σ', RelE U G ρ' σ' H → Diff sl σ σ' → Q σ' H
  | none => False
def tGv (U : Wd) (tg : Expr) (sl : List Nat) (g : Tg) : TG := fun v σ H Q => ∃ G ρ S d, RelS U G S H ∧ RelE U G ρ σ H ∧ DVt tg U G H d v ∧ okT U sl σ G H (g d ρ S) Q
abbrev Tgs := List D → Env → Sto → Option Env
def tGsv (U : Wd) (sl : List Nat) (g : Tgs) : TGs := fun vs σ H Q => ∃ G ρ S ds, RelS U G S H ∧ RelE U G ρ σ H ∧ DVs U G H ds vs ∧ okT U sl σ G H (g ds ρ S) Q
def CG (X : Cx) (tg : Expr) (sl : List Nat) (g : Tg) : Prop := PG X tg (tGv (wd X) tg sl g)
def CGs (X : Cx) (tgs : List Expr) (sl : List Nat) (g : Tgs) : Prop := PGs X tgs (tGsv (wd X) sl g)
theorem PG.imp {X : Cx} {e : Expr} {t t' : TG} (h : PG X e t) (i : ∀ v σ H Q, t' v σ H Q → t v σ H Q) : PG X e t' := ⟨fun p s σ H v u Q I r q => h.run p s σ H v u Q I r (i v σ H Q q)⟩
theorem PGs.imp {X : Cx} {e : List Expr} {t t' : TGs} (h : PGs X e t) (i : ∀ v σ H Q, t' v σ H Q → t v σ H Q) : PGs X e t' := ⟨fun p s σ H v u Q I r q => h.run p s σ H v u Q I r (i v σ H Q q)⟩
def gN (i : Nat) : Tg := fun d ρ _ => some (ρ.set i (some d))
def gsNil : Tgs := fun ds ρ _ => match ds with
  | [] => some ρ
  | _ => none
def gsCons (g : Tg) (gs : Tgs) : Tgs := fun ds ρ S => match ds with
  | d :: ds => (match g d ρ S with
    | some ρ' => gs ds ρ' S
    | none => none)
  | [] => none
/-- a tuple (or a list) of so many -/
def gT (n : Nat) (gs : Tgs) : Tg := fun d ρ S => match rd S d with
  | .tup ds => if ds.length = n then gs ds ρ S else none
  | _ => none
theorem cg_name (i : Nat) {x : Str} (hN : X.N.Nodup) (hi : X.N[i]? = some x := by rfl) (hx : Loc X.env.scope x := by first | exact .inl rfl | exact .inr rfl) (hf : X.fn x = true ∨ X.env.scope.names.lookup x = some .local := by first | exact .inr rfl | exact .inl rfl) : CG X (.Name x pos) [i] (gN i) :=
  PG.imp (pg_name hN hi hx hf) fun v σ H Q ⟨G, ρ, S, d, rs, re, dv, h⟩ => h _ (re.set i dv) ⟨List.length_set, fun j hj => by rw [List.getElem?_set_ne (fun e => hj (by simp [e]))]⟩
theorem cgs_nil : CGs X [] [] gsNil := PGs.imp pgs_nil fun vs σ H Q ⟨G, ρ, S, ds, rs, re, dv, h⟩ => by
  cases ds with
  | nil => exact ⟨dv, h σ re Diff.refl⟩
  | cons d ds => exact h.elim
theorem cgs_cons {tg : Expr} {tgs : List Expr} {sl sl' : List Nat} {g : Tg} {gs : Tgs} (h1 : CG X tg sl g) (h2 : CGs X tgs sl' gs) (hs : (assignEach (tg :: tgs) X.env).map (·.2) = assign tg X.env :: (assignEach tgs X.env).map (·.2) := by rfl) : CGs X (tg :: tgs) (sl ++ sl') (gsCons g gs) :=
  PGs.imp (pgs_cons h1 h2 hs) fun vs σ H Q ⟨G, ρ, S, ds, rs, re, dv, h⟩ => by
    cases ds with
    | nil => exact h.elim
    | cons d ds =>
      obtain ⟨v, r, e, q1, q2⟩ := dv
      refine ⟨v, r, e, G, ρ, S, d, rs, re, DVt.of q1, ?_⟩
      unfold gsCons at h
      dsimp only at h
      cases e1 : g d ρ S with
      | none => rw [e1] at h; exact h.elim
      | some ρ' =>
        rw [e1] at h
        dsimp only at h
        refine fun σ' re' df => ⟨G, ρ', S, ds, rs, re', q2, ?_⟩
        cases e2 : gs ds ρ' S with
        | none => rw [e2] at h; exact h.elim
        | some ρ2 => rw [e2] at h; exact fun σ2 re2 df2 => h σ2 re2 (df.trans df2)
theorem cg_tup {es : List Expr} {k : Nat} {gs : Tgs} {n : Nat} {sl : List Nat} (hc : X.calm = true) (h : CGs X es sl gs) (hn : (assignEach es X.env).length = n := by rfl) (hst : (assignEach es X.env).findIdx? (·.1) = none := by rfl) : CG X (.Tuple es k pos) sl (gT n gs) :=
  PG.imp (pg_tup hc h hn hst) fun v σ H Q ⟨G, ρ, S, d, rs, re, dv, h⟩ => by
    unfold gT at h
    split at h
    · rename_i ds e
      have hsq : ∃ a vs, v = .ref a ∧ SqT X.K H a vs ∧ DVs (wd X) G H ds vs := by
        have dv : DVw (wd X) G H d v := dv
        rcases dv with dv | ⟨ds2, a, vs, rfl, rfl, t, q⟩
        · exact rd_tup e dv
        · cases (show D.tup ds2 = .tup ds from e)
          exact ⟨a, vs, rfl, t.sq, q⟩
      obtain ⟨a, vs, ev, sq, q⟩ := hsq
      by_cases hl : ds.length = n
      · rw [if_pos hl] at h
        exact ⟨a, vs, ev, sq, by rw [q.length]; exact hl, G, ρ, S, ds, rs, re, q, h⟩
      · rw [if_neg hl] at h; exact h.elim
    · exact h.elim
/-- target = value -/
def sAsg (g : Tg) (m : E) : C := fun ρ S => (m ρ S).toS ρ fun d S => match g d ρ S with
  | some ρ' => .nx ρ' S
  | none => .bad
theorem cs_asg {tg e : Expr} {m : E} {g : Tg} {sl : List Nat} (he : CE X e m) (hg : CG X tg sl g) (hs : swapsWithSole [tg] e pos.line X.env = pure false := by rfl) (hw : swappedStores [tg] e X.env = pure none := by rfl) (h1 : (assignEach [tg] X.env).map (·.2) = [assign tg X.env] := by rfl) : CS X (.Assign [tg] e pos) (sAsg g m) := fun W tk =>
  PS.imp (ps_asg (he W tk) hg hs hw h1) fun D σ H ⟨G, ρ, S, rs, re, h⟩ => by
    obtain ⟨G0, ρ0, S0, a, b, c⟩ := tEv.toS rs re h
    refine ⟨G0, ρ0, S0, a, b, Go.mono c fun v H1 ⟨G1, d, S1, s, rs1, re1, dv, g1⟩ => ⟨G1, ρ, S1, d, rs1, re1, DVt.of dv, ?_⟩⟩
    cases e1 : g d ρ S1 with
    | none => rw [e1] at g1; exact g1.elim
    | some ρ' => rw [e1] at g1; exact fun σ' re' _ => GoS.nx_ g1 rs1 re'
/-- a, b = x, y of plain names -/
def sPar (i j : Nat) (ma : As) : C := fun ρ S => (ma ρ S).toS ρ fun ds S => match ds with
  | [d, e] => .nx ((ρ.set i (some d)).set j (some e)) S
  | _ => .bad
theorem cs_par (i j : Nat) {x y : Str} {a b : Expr} {ma : As} {px py pt : Pos} {kt k2 pt2} (hc : X.calm = true) (hN : X.N.Nodup) (ha : CA X [a, b] ma) (hw : swappedStores [.Tuple [.Name x px, .Name y py] kt pt] (.Tuple [a, b] k2 pt2) X.env = pure (some [x, y]) := by rfl) (hi : X.N[i]? = some x := by rfl) (hj : X.N[j]? = some y := by rfl) (hij : i ≠ j := by decide)
    (hx : X.env.scope.names.lookup x = some .local := by rfl) (hy : X.env.scope.names.lookup y = some .local := by rfl)
    (hs : swapsWithSole [.Tuple [.Name x px, .Name y py] kt pt] (.Tuple [a, b] k2 pt2) pos.line X.env = pure false := by rfl) :
    CS X (.Assign [.Tuple [.Name x px, .Name y py] kt pt] (.Tuple [a, b] k2 pt2) pos) (sPar i j ma) := fun W tk => PS.imp (ps_par hc hN hi hj hij hx hy (ha W tk) hw hs) fun D σ H ⟨G, ρ, S, rs, re, h⟩ => by
  obtain ⟨G0, ρ0, S0, a, b, c⟩ := tAv.toS rs re h
  refine ⟨G0, ρ0, S0, a, b, Go.mono c fun vs H1 ⟨G1, ds, S1, s, rs1, re1, dvs, g⟩ => ?_⟩
  cases ds with
  | nil => exact g.elim
  | cons d ds =>
    cases ds with
    | nil => exact g.elim
    | cons e ds =>
      cases ds with
      | nil =>
        obtain ⟨v, r, e1, q1, w, r2, e2, q2, e3⟩ := dvs
        have e3 : r2 = [] := e3
        subst e3 e2 e1
        exact ⟨v, w, rfl, GoS.nx_ g rs1 ((re1.set i q1).set j q2)⟩
      | cons _ _ => exact g.elim
/-- op= of ints and texts -/
def sAug (i : Nat) (g : D2) (m : E) : C := fun ρ S => match ρ[i]? with
  | some (some a) => (m ρ S).toS ρ fun b S => (g a b S).toS ρ fun d S => .nx (ρ.set i (some d)) S
  | _ => .bad
/-- by values -/
def IpD (X : Cx) (op : Operator) (g : D2) : Prop := ∀ W σ, ∀ (pins : List (Addr × Obj)) (s : Shared) (H : Hp) (x y : V) (v u : Value) (Q : VK), Inv X pins σ H s → RelV x v → RelV y u → rD (wd X) g W σ x y H Q →
    wpAny (model X.prog X.w) X.A (inplaceOp op v u) (EP X pins σ Q) X.xe s
end
end Z

/-! Z9: methods of built-in types, lists changed, loops, defs. -/
namespace Z
open PySem PySem.Spec PyProof.Rows L2

abbrev Mn := D → List D → Sto → R D
def rM (U : Wd) (g : Mn) (W : WX) (σ : L2.St) : V → List V → Hp → VK → Prop := fun x xs H Q => ∃ G S d ds, RelS U G S H ∧ DV U G H d x ∧ DVs U G H ds xs ∧ GoD U W σ G H (g d ds S) Q
def MB (X : Cx) (id : String) (g : Mn) : Prop := ∀ W σ, MtR X id (rM (wd X) g W σ)
/-- of that type -/
abbrev Ty := D → Sto → Bool
def TyOf (X : Cx) (T : String) (ty : Ty) : Prop := ∀ {G : Gh} {S : Sto} {H : Hp} {d : D} {v : V}, RelS (wd X) G S H → DV (wd X) G H d v → ty d S = true → tyV X.K T v H
def tyL : Ty := fun d S => match rd S d with
  | .lst _ => true
  | _ => false
def tyS : Ty := fun d _ => match d with
  | .str _ => true
  | _ => false
def tyDi : Ty := fun d S => match rd S d with
  | .dct _ _ => true
  | _ => false
theorem tyL_of {X : Cx} : TyOf X "list" tyL := fun rs q h => by
  unfold tyL at h
  split at h
  · rename_i ds e
    obtain ⟨a, vs, rfl, r, _⟩ := rd_lst rs e q
    exact .inl ⟨rfl, vs, r⟩
  · cases h
theorem tyS_of {X : Cx} : TyOf X "str" tyS := fun {G S H d v} rs q h => by
  unfold tyS at h
  split at h
  · rename_i l
    have q : v = _ := q
    subst q
    exact (rfl : ("str" : String) = "str")
  · cases h
theorem tyDi_of {X : Cx} : TyOf X "dict" tyDi := fun rs q h => by
  unfold tyDi at h
  split at h
  · rename_i ks zs e
    obtain ⟨a, kvs, rfl, r, _⟩ := rd_dct rs e q
    exact .inr (.inr (.inl ⟨rfl, .inl ⟨kvs, r⟩⟩))
  · cases h
def eMt0 (ty : Ty) (g : Mn) (m : E) : E := fun ρ S => (m ρ S).bind fun d S => if ty d S = true then g d [] S else .bad
def eMt (ty : Ty) (g : Mn) (m : E) (ma : As) : E := fun ρ S => (m ρ S).bind fun d S => if ty d S = true then (ma ρ S).bind fun ds S => g d ds S else .bad
section
variable {X : Cx} {pos : Pos} {T id : String} {ty : Ty} {g : Mn} {o e : Expr} {es : List Expr} {m : E} {ma : As} {name : Str} {apos cpos : Pos}
theorem ce_m0 (pa : PlainAttrs T) (slot : Slot T name id) (hty : typeOf (.builtin id) = pure (.type "method_descriptor")) (ht : TyOf X T ty) (hm : MB X id g) (ho : CE X o m)
    (hbase : attributeBase o name X.env (eval o X.env) = eval o X.env := by rfl) (hline : (apos.endLine == cpos.line) = true := by rfl) : CE X (.Call (.Attribute o name apos) [] [] cpos) (eMt0 ty g m) := fun W tk => ⟨fun pins s σ H Q I h => by
  refine (pe_bm0 pa slot hty (hm W σ) (ho W tk) hbase hline).run pins s σ H Q I ?_
  obtain ⟨G, ρ, S, rs, re, h⟩ := h
  obtain ⟨G0, ρ0, S0, a, b, c⟩ := tEv.bind rs re h
  refine ⟨G0, ρ0, S0, a, b, Go.mono c fun v H1 ⟨G1, d, S1, s, rs1, re1, dv, g1⟩ => ?_⟩
  split at g1
  · rename_i hh
    exact ⟨ht rs1 dv hh, G1, S1, d, [], rs1, dv, rfl, g1⟩
  · exact g1.elim⟩
theorem ce_m (pa : PlainAttrs T) (slot : Slot T name id) (hty : typeOf (.builtin id) = pure (.type "method_descriptor")) (ht : TyOf X T ty) (hm : MB X id g) (ho : CE X o m) (ha : CA X (e :: es) ma)
    (hbase : attributeBase o name X.env (eval o X.env) = eval o X.env := by rfl)
    (hfew : ((backTo cpos (starEach (e :: es) X.env)).all (fun x => !x.1) && (backToKw cpos (keywordEach [] X.env)).all (fun x => x.1.isSome)
      && decide ((e :: es).length + ([] : List Keyword).length + (if ([] : List Keyword).isEmpty then 0 else 1) < 30)) = true := by rfl)
    (hline : (apos.endLine == cpos.line) = true := by rfl) (hs : starEach (e :: es) X.env = (false, eval e X.env) :: starEach es X.env := by rfl) (hplain : (backTo cpos (starEach es X.env)).any (·.1) = false := by rfl) :
    CE X (.Call (.Attribute o name apos) (e :: es) [] cpos) (eMt ty g m ma) := fun W tk => ⟨fun pins s σ H Q I h => by
  refine (pe_bm pa slot hty (hm W σ) (ho W tk) (ha W tk) hbase hfew hline hs hplain).run pins s σ H Q I ?_
  obtain ⟨G, ρ, S, rs, re, h⟩ := h
  obtain ⟨G0, ρ0, S0, a, b, c⟩ := tEv.bind rs re h
  refine ⟨G0, ρ0, S0, a, b, Go.mono c fun v H1 ⟨G1, d, S1, s, rs1, re1, dv, g1⟩ => ?_⟩
  split at g1
  · rename_i hh
    obtain ⟨G0, ρ0, S0, a, b, c⟩ := tAv.bind rs1 re1 g1
    exact ⟨ht rs1 dv hh, G0, ρ0, S0, a, b, Go.mono c fun vs H2 ⟨G2, ds, S2, s2, rs2, re2, dvs, g2⟩ => ⟨G2, S2, d, ds, rs2, dv.mono s2, dvs, g2⟩⟩
  · exact g1.elim⟩

/-! ### lists changed -/
/-- the list in the store that d names -/
def refL : D → Sto → Option (Nat × List D)
  | .ref n, S => match S.get n with
    | some (.lst ds) => some (n, ds)
    | _ => none
  | _, _ => none
theorem refL_of {U : Wd} {G : Gh} {S : Sto} {H : Hp} {d : D} {v : V} {n : Nat} {ds : List D} (rs : RelS U G S H) (q : DV U G H d v) (h : refL d S = some (n, ds)) : n < G.n ∧ v = .ref (G.ι n) ∧ ∃ vs, H (G.ι n) = some (.lst vs) ∧ DVs U G H ds vs := by
  cases d with
  | ref m =>
    unfold refL at h
    dsimp only at h
    split at h
    · rename_i es e
      cases h
      obtain ⟨hn, rfl⟩ := q
      obtain ⟨vs, e1, q⟩ := rs.at_ _ _ e
      exact ⟨hn, rfl, vs, e1, q⟩
    · cases h
  | _ => cases h
theorem put_lst {U : Wd} {G : Gh} {S : Sto} {H : Hp} {n : Nat} {ds : List D} {vs : List V} (rs : RelS U G S H) (hn : n < G.n) (q : DVs U G H ds vs) : Step G H G (upd H (G.ι n) (.lst vs)) ∧ RelS U G (S.set n (.lst ds)) (upd H (G.ι n) (.lst vs)) :=
  ⟨step_put rs hn, rel_put rs hn ⟨vs, upd_same, q.mono (step_put rs hn)⟩⟩
theorem Go.put {U : Wd} {W : WX} {σ : L2.St} {G : Gh} {S : Sto} {H : Hp} {n : Nat} {ds : List D} {vs : List V} {d : D} {v : V} {Q : VK} (g : GoD U W σ G H (.ok d (S.set n (.lst ds))) Q) (rs : RelS U G S H) (hn : n < G.n) (q : DVs U G H ds vs) (qd : DV U G H d v) : Q v (upd H (G.ι n) (.lst vs)) :=
  let ⟨s, r⟩ := put_lst rs hn q
  g G v _ s r (qd.mono s)
theorem DVs.dropLast {U : Wd} {G : Gh} {H : Hp} : ∀ {ds : List D} {vs : List V}, DVs U G H ds vs → DVs U G H ds.dropLast vs.dropLast
  | [], _, h => by have h : _ = _ := h; subst h; rfl
  | [_], _, ⟨v, r, e, h1, h2⟩ => by have h2 : r = [] := h2; subst h2; subst e; rfl
  | _ :: _ :: _, _, ⟨v, r, e, h1, ⟨w, r2, e2, h3, h4⟩⟩ => by
    subst e2; subst e
    exact ⟨v, _, rfl, h1, DVs.dropLast (ds := _ :: _) ⟨w, r2, rfl, h3, h4⟩⟩
theorem DVs.setD {U : Wd} {G : Gh} {H : Hp} {d : D} {v : V} (q : DV U G H d v) : ∀ {ds : List D} {vs : List V} (j : Nat), DVs U G H ds vs → DVs U G H (ds.set j d) (vs.set j v)
  | [], _, _, h => by have h : _ = _ := h; subst h; rfl
  | _ :: _, _, 0, ⟨w, r, e, h1, h2⟩ => by subst e; exact ⟨v, r, rfl, q, h2⟩
  | _ :: _, _, j + 1, ⟨w, r, e, h1, h2⟩ => by subst e; exact ⟨w, _, rfl, h1, DVs.setD q j h2⟩
theorem DVs.take_ {U : Wd} {G : Gh} {H : Hp} : ∀ {ds : List D} {vs : List V} (j : Nat), DVs U G H ds vs → DVs U G H (ds.take j) (vs.take j)
  | [], _, j, h => by have h : _ = _ := h; subst h; rw [List.take_nil, List.take_nil]; rfl
  | _ :: _, _, 0, _ => by rw [List.take_zero, List.take_zero]; rfl
  | _ :: _, _, j + 1, ⟨w, r, e, h1, h2⟩ => by subst e; exact ⟨w, _, rfl, h1, DVs.take_ j h2⟩
theorem DVs.drop_ {U : Wd} {G : Gh} {H : Hp} : ∀ {ds : List D} {vs : List V} (j : Nat), DVs U G H ds vs → DVs U G H (ds.drop j) (vs.drop j)
  | [], _, j, h => by have h : _ = _ := h; subst h; rw [List.drop_nil, List.drop_nil]; rfl
  | _ :: _, _, 0, h => h
  | _ :: _, _, j + 1, ⟨w, r, e, h1, h2⟩ => by subst e; exact DVs.drop_ j h2
def oAppend : Mn := fun d es S => match refL d S, es with
  | some (n, ds), [e] => if fits (ds.length + 1) = true then .ok .non (S.set n (.lst (ds ++ [e]))) else .bad
  | _, _ => .bad
theorem mb_append : MB X "list.append" oAppend := fun W σ pins s σ' H x xs v us Q I rx rxs ⟨G, S, d, es, rs, qd, qe, g⟩ => by
  unfold oAppend at g
  split at g
  · rename_i n ds e hr
    split at g
    · rename_i hf
      obtain ⟨hn, rfl, vs, e1, q⟩ := refL_of rs qd hr
      obtain ⟨w, r, rfl, qw, qr⟩ := qe
      have qr : r = [] := qr
      subst qr
      refine mt_append pins s σ' H _ _ v us Q I rx rxs ⟨_, vs, w, rfl, rfl, e1, ?_, Go.put g rs hn (q.append ⟨w, [], rfl, qw, rfl⟩) rfl⟩
      have := fits_le hf
      rw [q.length]; omega
    · exact g.elim
  · exact g.elim
def oPop : Mn := fun d es S => match refL d S, es with
  | some (n, ds), [] => (match ds[ds.length - 1]? with
    | some e => .ok e (S.set n (.lst ds.dropLast))
    | none => .bad)
  | _, _ => .bad
theorem mb_pop : MB X "list.pop" oPop := fun W σ pins s σ' H x xs v us Q I rx rxs ⟨G, S, d, es, rs, qd, qe, g⟩ => by
  unfold oPop at g
  split at g
  · rename_i n ds hr
    split at g
    · rename_i e he
      obtain ⟨hn, rfl, vs, e1, q⟩ := refL_of rs qd hr
      have qe : xs = [] := qe
      subst qe
      obtain ⟨w, hw, dw⟩ := q.at he
      refine mt_pop pins s σ' H _ _ v us Q I rx rxs ⟨_, vs, w, rfl, rfl, e1, by rw [q.length]; exact hw, Go.put g rs hn q.dropLast dw⟩
    · exact g.elim
  · exact g.elim
/-- l.extend(..) of a list, or a tuple -/
theorem mt_extendA : MtM X "list.extend" (fun x vs H Q => ∃ l b xs zs, x = .ref l ∧ vs = [.ref b] ∧ H l = some (.lst xs) ∧ Rd H b (.lst zs) ∧ xs.length + zs.length ≤ sizeLine ∧ Q .non (upd H l (.lst (xs ++ zs)))) := by
  intro pins s σ H x vs v us Q I rx rv h
  obtain ⟨l, b, xs, zs, rfl, rfl, hH, hB, hz, q⟩ := h
  cases rx
  obtain ⟨u, rfl, ru⟩ := rv.one
  cases ru
  obtain ⟨z, its, n, r, hl, e⟩ := I.lstM hH
  obtain ⟨z2, its2, n2, r2, e2⟩ := hB.ok I.hok
  have hl2 := r2.length
  have hsz : its.toArray.size + its2.toArray.size ≤ sizeLine := by rw [List.size_toArray, List.size_toArray]; omega
  have hlong : ¬ (!its.toArray.isEmpty && Builtin.List.listTooLong (its.toArray.size + its2.toArray.size)) = true := by
    rw [notLongL hsz, Bool.and_false]
    exact Bool.false_ne_true
  refine call_meets PySem.F.slot_list_extend ⟨_, e, rfl⟩ PySem.F.entry_list_extend (PySem.F.args_list_extend_2 _ _)
    (AutoSeq1.list_extend_list_list_0 l its.toArray n b its2.toArray n2 hlong (by rw [List.size_toArray]; omega) (by omega)) ⟨e, e2, ?_⟩
  refine ⟨.non, _, I.lset (its' := its ++ its2) hH e (by simp) (r.append r2) ?_, rfl, q⟩
  rw [List.length_append]
  omega
def oExtend : Mn := fun d es S => match refL d S, es with
  | some (n, ds), [e] => (match rd S e with
    | .lst fs => if fits (ds.length + fs.length) = true then .ok .non (S.set n (.lst (ds ++ fs))) else .bad
    | _ => .bad)
  | _, _ => .bad
theorem mb_extend : MB X "list.extend" oExtend := fun W σ pins s σ' H x xs v us Q I rx rxs ⟨G, S, d, es, rs, qd, qe, g⟩ => by
  unfold oExtend at g
  split at g
  · rename_i n ds e hr
    split at g
    · rename_i fs hfs
      split at g
      · rename_i hf
        obtain ⟨hn, rfl, vs, e1, q⟩ := refL_of rs qd hr
        obtain ⟨w, r, rfl, qw, qr⟩ := qe
        have qr : r = [] := qr
        subst qr
        obtain ⟨b, ws, rfl, rb, qb⟩ := rd_lstR rs hfs qw
        refine mt_extendA pins s σ' H _ _ v us Q I rx rxs ⟨_, b, vs, ws, rfl, rfl, e1, rb, ?_, Go.put g rs hn (q.append qb) rfl⟩
        have := fits_le hf
        rw [q.length, qb.length]; exact this
      · exact g.elim
    · exact g.elim
  · exact g.elim
def oInsert : Mn := fun d es S => match refL d S, es with
  | some (n, ds), [.int i, e] => if fits (ds.length + 1) = true ∧ 0 ≤ i ∧ i < 16777216 then .ok .non (S.set n (.lst (ds.take i.toNat ++ [e] ++ ds.drop i.toNat))) else .bad
  | _, _ => .bad
theorem mb_insert : MB X "list.insert" oInsert := fun W σ pins s σ' H x xs v us Q I rx rxs ⟨G, S, d, es, rs, qd, qe, g⟩ => by
  unfold oInsert at g
  split at g
  · rename_i n ds i e hr
    split at g
    · rename_i hf
      obtain ⟨hn, rfl, vs, e1, q⟩ := refL_of rs qd hr
      obtain ⟨w, r, rfl, qw, w2, r2, rfl, qw2, qr⟩ := qe
      have qr : r2 = [] := qr
      subst qr
      have qw : w = _ := qw
      subst qw
      refine mt_insert pins s σ' H _ _ v us Q I rx rxs ⟨_, vs, i, w2, rfl, rfl, e1, ?_, hf.2.1, by have := hf.2.2; omega, Go.put g rs hn (((q.take_ i.toNat).append (show DVs (wd X) G H [e] [w2] from ⟨w2, [], rfl, qw2, rfl⟩)).append (q.drop_ i.toNat)) rfl⟩
      have := fits_le hf.1
      rw [q.length]; omega
    · exact g.elim
  · exact g.elim

/-! ### subscripts stored -/
abbrev Sn := D → D → D → Sto → Option Sto
def okP (U : Wd) (G : Gh) (H : Hp) (r : Option Sto) (Q : Hp → Prop) : Prop := match r with
  | some S' => ∀ G' H', Step G H G' H' → RelS U G' S' H' → Q H'
  | none => False
def rSet (U : Wd) (g : Sn) : TSet := fun o i v H Q => ∃ G S a j d, RelS U G S H ∧ DV U G H a o ∧ DV U G H j i ∧ DV U G H d v ∧ okP U G H (g a j d S) Q
def dhas (ks : List D) (k : D) : Bool := match ks with
  | [] => false
  | k' :: ks => eqv k' k || dhas ks k
def dmap : List D → List D → D → D → List D
  | k' :: ks, z :: zs, k, d => (if eqv k' k = true then d else z) :: dmap ks zs k d
  | _, _, _, _ => []
def dput (ks zs : List D) (k d : D) : List D × List D := if dhas ks k = true then (ks, dmap ks zs k d) else (ks ++ [k], zs ++ [d])
/-- an own field of a law's bag -/
def bagSet (b : Bag) (i : Int) (d : D) : Option Bag := match d with
  | .int x => if i = 0 then some { b with a := x } else if i = 1 then some { b with b := x } else if i = 2 then some { b with c := x } else none
  | _ => none
def oSet : Sn := fun a j d S => match a with
  | .ref n => (match S.get n with
    | some (.lst ds) => (match j with
      | .int k => (match ixN ds.length k with
        | some i => some (S.set n (.lst (ds.set i d)))
        | none => none)
      | _ => none)
    | some (.bag b) => (match j with
      | .int k => (match bagSet b k d with
        | some b' => some (S.set n (.bag b'))
        | none => none)
      | _ => none)
    | some (.dct ks zs) => (match keyOf j with
      | some _ => if fits (ks.length + 1) = true then some (S.set n (.dct (dput ks zs j d).1 (dput ks zs j d).2)) else none
      | none => none)
    | _ => none)
  | _ => none
theorem dhas_ok {k : D} {kk : Key} (hk : keyOf k = some kk) : ∀ {ks : List D} {kvs : List (Key × V)}, ks.map keyOf = kvs.map (fun p => some p.1) → dhas ks k = kvs.any fun kv => decide (kv.1 = kk)
  | [], kvs, h1 => by
    cases kvs with
    | nil => rfl
    | cons p r => simp at h1
  | k' :: ks, kvs, h1 => by
    cases kvs with
    | nil => simp at h1
    | cons p r =>
      have h1' : keyOf k' = some p.1 ∧ ks.map keyOf = r.map (fun p => some p.1) := by simpa using h1
      unfold dhas
      rw [keyOf_eqv h1'.1 hk, dhas_ok hk h1'.2, List.any_cons]
theorem dmap_ok {U : Wd} {G : Gh} {H : Hp} {k : D} {kk : Key} {d : D} {v : V} (hk : keyOf k = some kk) (q : DV U G H d v) : ∀ {ks zs : List D} {kvs : List (Key × V)}, ks.map keyOf = kvs.map (fun p => some p.1) → DVs U G H zs (kvs.map (·.2)) →
    DVs U G H (dmap ks zs k d) ((kvs.map fun kv => if kv.1 = kk then (kv.1, v) else kv).map (·.2))
  | [], zs, kvs, h1, h2 => by
    cases kvs with
    | nil => show DVs U G H (dmap [] zs k d) []; unfold dmap; cases zs <;> rfl
    | cons p r => simp at h1
  | k' :: ks, zs, kvs, h1, h2 => by
    cases kvs with
    | nil => simp at h1
    | cons p r =>
      have h1' : keyOf k' = some p.1 ∧ ks.map keyOf = r.map (fun p => some p.1) := by simpa using h1
      cases zs with
      | nil => have : p.2 :: r.map (·.2) = [] := h2; cases this
      | cons z zs =>
        obtain ⟨w, rr, e, q1, q2⟩ := h2
        have e : p.2 :: r.map (·.2) = w :: rr := e
        injection e with e1 e2
        subst e1 e2
        refine ⟨_, _, rfl, ?_, dmap_ok hk q h1'.2 q2⟩
        rw [keyOf_eqv h1'.1 hk]
        show DV U G H _ (if p.1 = kk then (p.1, v) else p).2
        by_cases c : p.1 = kk
        · rw [if_pos c, if_pos (decide_eq_true c)]; exact q
        · rw [if_neg c, if_neg (by rw [decide_eq_false c]; exact Bool.false_ne_true)]; exact q1
theorem dput_ok {U : Wd} {G : Gh} {H : Hp} {k : D} {kk : Key} {d : D} {v : V} (hk : keyOf k = some kk) (q : DV U G H d v) {ks zs : List D} {kvs : List (Key × V)} (h1 : ks.map keyOf = kvs.map (fun p => some p.1)) (h2 : DVs U G H zs (kvs.map (·.2))) :
    (dput ks zs k d).1.map keyOf = (putK kvs kk v).map (fun p => some p.1) ∧ DVs U G H (dput ks zs k d).2 ((putK kvs kk v).map (·.2)) := by
  unfold dput putK
  rw [dhas_ok hk h1]
  by_cases c : (kvs.any fun kv => decide (kv.1 = kk)) = true
  · rw [if_pos c, if_pos c]
    refine ⟨?_, dmap_ok hk q h1 h2⟩
    rw [List.map_map]
    refine h1.trans (List.map_congr_left fun p _ => ?_)
    show some p.1 = some (if p.1 = kk then (p.1, v) else p).1
    by_cases e : p.1 = kk
    · rw [if_pos e]
    · rw [if_neg e]
  · rw [if_neg c, if_neg c]
    refine ⟨?_, ?_⟩
    · rw [List.map_append, List.map_append, h1]
      show _ ++ [keyOf k] = _ ++ [some kk]
      rw [hk]
    · rw [List.map_append]
      exact h2.append ⟨v, [], rfl, q, rfl⟩
theorem bagSet_vs {U : Wd} {G : Gh} {H : Hp} {b b' : Bag} {i : Int} {d : D} {v : V} {c : Addr} {n : Nat} (h : bagSet b i d = some b') (hn : 4 = n) (q : DV U G H d v) : ∃ j, ixN n i = some j ∧ [V.int b.a, .int b.b, .int b.c, .ref c].set j v = [V.int b'.a, .int b'.b, .int b'.c, .ref c] ∧ b'.l = b.l := by
  subst hn
  unfold bagSet at h
  cases d with
  | int x =>
    have q : v = .int x := q
    subst q
    dsimp only at h
    by_cases h0 : i = 0
    · rw [if_pos h0] at h; cases h; subst h0; exact ⟨0, rfl, rfl, rfl⟩
    · rw [if_neg h0] at h
      by_cases h1 : i = 1
      · rw [if_pos h1] at h; cases h; subst h1; exact ⟨1, rfl, rfl, rfl⟩
      · rw [if_neg h1] at h
        by_cases h2 : i = 2
        · rw [if_pos h2] at h; cases h; subst h2; exact ⟨2, rfl, rfl, rfl⟩
        · rw [if_neg h2] at h; cases h
  | _ => cases h
theorem set_any {k0 : Nat} (hr : Room k0 X.A) : PSet X (rSet (wd X) oSet) := fun pins s σ H o i v ov iv u Q I ro ri rv ⟨G, S, a, j, d, rs, qa, qj, qd, g⟩ => by
  unfold oSet at g
  cases a with
  | ref n =>
    obtain ⟨hn, rfl⟩ := qa
    dsimp only at g
    cases e : S.get n with
    | none => rw [e] at g; exact g.elim
    | some ob =>
      rw [e] at g
      cases ob with
      | lst ds =>
        cases j with
        | int k =>
          have qj : i = .int k := qj
          subst qj
          dsimp only at g
          cases ei : ixN ds.length k with
          | none => rw [ei] at g; exact g.elim
          | some t =>
            rw [ei] at g
            obtain ⟨vs, e1, q⟩ := rs.at_ n _ e
            obtain ⟨st, r⟩ := put_lst rs hn (DVs.setD qd t q)
            exact set_list pins s σ H _ _ v ov iv u Q I ro ri rv ⟨_, vs, k, t, rfl, rfl, e1, by rw [q.length]; exact ei, g G _ st r⟩
        | _ => exact g.elim
      | bag b =>
        cases j with
        | int k =>
          have qj : i = .int k := qj
          subst qj
          dsimp only at g
          cases ei : bagSet b k d with
          | none => rw [ei] at g; exact g.elim
          | some b' =>
            rw [ei] at g
            obtain ⟨c, e1, q⟩ := rs.at_ n _ e
            obtain ⟨t, h1, h2, h3⟩ := bagSet_vs (c := c) ei rfl qd
            refine set_list pins s σ H _ _ v ov iv u Q I ro ri rv ⟨_, _, k, t, rfl, rfl, e1, h1, ?_⟩
            rw [h2]
            exact g G _ (step_put rs hn) (rel_put rs hn ⟨c, upd_same, by rw [h3]; exact q.mono (step_put rs hn)⟩)
        | _ => exact g.elim
      | dct ks zs =>
        dsimp only at g
        cases ek : keyOf j with
        | none => rw [ek] at g; exact g.elim
        | some kk =>
          rw [ek] at g
          dsimp only at g
          by_cases hf : fits (ks.length + 1) = true
          · rw [if_pos hf] at g
            obtain ⟨kvs, e1, q1, q⟩ := rs.at_ n _ e
            obtain ⟨p1, p2⟩ := dput_ok ek qd q1 q
            have hl : kvs.length = ks.length := by have := congrArg List.length q1; simpa using this.symm
            have := fits_le hf
            have ei := keyOf_V ek qj
            subst ei
            refine set_dict (Room.u1 hr) pins s σ H _ _ v ov iv u Q I ro ri rv ⟨_, _, rfl, DPut.k e1 (by omega), ?_⟩
            exact g G _ (step_put rs hn) (rel_put rs hn ⟨_, upd_same, p1, p2.mono (step_put rs hn)⟩)
          · rw [if_neg hf] at g; exact g.elim
      | dcn ks zs => exact g.elim
      | tbl _ => exact g.elim
      | ins c fs => exact g.elim
  | _ => exact g.elim
/-- o[i] = e -/
def sPut (me mo mi : E) : C := fun ρ S => (me ρ S).toS ρ fun d S => (mo ρ S).toS ρ fun a S => (mi ρ S).toS ρ fun j S => match oSet a j d S with
  | some S' => .nx ρ S'
  | none => .bad
theorem cs_put {k0 : Nat} {o i e : Expr} {mo mi me : E} {tpos : Pos} (hr : Room k0 X.A) (he : CE X e me) (ho : CE X o mo) (hi : CE X i mi) (ha : ∀ v, assign (.Subscript o i tpos) X.env v = (do
      let ov ← holding [v] (eval o X.env)
      let iv ← holding [v, ov] (eval i X.env)
      standAt tpos
      holding [v, ov, iv] (setItem ov iv v)
      release [v, ov, iv] []) := by intro _; rfl) (hs : swapsWithSole [.Subscript o i tpos] e pos.line X.env = pure false := by rfl) (hw : swappedStores [.Subscript o i tpos] e X.env = pure none := by rfl) (h1 : (assignEach [.Subscript o i tpos] X.env).map (·.2) = [assign (.Subscript o i tpos) X.env] := by rfl) :
    CS X (.Assign [.Subscript o i tpos] e pos) (sPut me mo mi) := fun W tk => PS.imp (ps_asg (he W tk) (pg_sub (ho W tk) (hi W tk) (set_any hr) ha) hs hw h1) fun D σ H ⟨G, ρ, S, rs, re, h⟩ => by
  obtain ⟨G0, ρ0, S0, a, b, c⟩ := tEv.toS rs re h
  refine ⟨G0, ρ0, S0, a, b, Go.mono c fun v H1 ⟨G1, d, S1, s, rs1, re1, dv, g1⟩ => ?_⟩
  obtain ⟨G0, ρ0, S0, a, b, c⟩ := tEv.toS rs1 re1 g1
  refine ⟨G0, ρ0, S0, a, b, Go.mono c fun o H2 ⟨G2, d2, S2, s2, rs2, re2, dv2, g2⟩ => ?_⟩
  obtain ⟨G0, ρ0, S0, a, b, c⟩ := tEv.toS rs2 re2 g2
  refine ⟨G0, ρ0, S0, a, b, Go.mono c fun i H3 ⟨G3, d3, S3, s3, rs3, re3, dv3, g3⟩ => ⟨G3, S3, d2, d3, d, rs3, dv2.mono s3, dv3, dv.mono (s2.trans s3), ?_⟩⟩
  cases e1 : oSet d2 d3 d S3 with
  | none => rw [e1] at g3; exact g3.elim
  | some S' => rw [e1] at g3; exact fun G' H' s' r' => GoS.nx_ (GoS.step s' g3) r' (re3.mono s')
end
end Z

/-! Z10: what is walked: lists, tuples, texts, ranges, enumerate, zip. -/
namespace Z
open PySem PySem.Spec PyProof PyProof.Rows L2

/-! ### enumerate of anything that begins -/
theorem meets_enum1 {v : Value} {o : Obj} {H : Heap → Prop} (B : Begins v o H) :
    Meets (Builtin.«enumerate.__new__» ⟨[.type "enumerate", v], []⟩) (fun _ R s => H s.heap ∧
      R (.ok (.ret (.ref (s.heap.push o).objs.size))) { s with heap := (s.heap.push o).push { cls := .type "enumerate", data := .fields #[.none, .bool false, .ref s.heap.objs.size, rawInt 0, .none, .none] } }) :=
  .of_wp fun prog w A R s h => by
    obtain ⟨hp, g, d, tk, os⟩ := s; obtain ⟨h1, h⟩ := h
    have hsub := sub_enumerate
    have q1 : ∀ {A' : Around} {E : Value → Shared → Prop} {Q : Value → Shared → Prop}, Q (.ref hp.objs.size) ⟨hp.push o, g, d, tk, os⟩ → wpAny (model prog w) A' (pyIter v) Q E ⟨hp, g, d, tk, os⟩ :=
      fun q => B.iter prog w _ _ ⟨hp, g, d, tk, os⟩ _ h1 q
    wp_walk using q1
    refine wpAny_stack_any fun st => wpAny_pure ?_
    split
    · rename_i c _ _ _ _ _
      cases (c == Value.type "enumerate")
      · wp_walk using q1
        exact ⟨_, rfl, h⟩
      · wp_walk using q1
        exact ⟨_, rfl, h⟩
    · wp_walk using q1
      exact ⟨_, rfl, h⟩
theorem enum_begins1 {prog : Program} {w : World} {A : Around} {E : Value → Shared → Prop} {s : Shared} {v : Value} {o : Obj} {H : Heap → Prop} {Q : Value → Shared → Prop} (B : Begins v o H) (h1 : H s.heap)
    (h : ∀ h', IsEnum h' (s.heap.objs.size + 1) s.heap.objs.size 0 .none → h'.get? s.heap.objs.size = some o → h'.objs.size = s.heap.objs.size + 2 →
      (∀ b o, s.heap.get? b = some o → h'.get? b = some o) → Q (.ref (s.heap.objs.size + 1)) { s with heap := h' }) :
    wpAny (model prog w) A (call (.type "enumerate") [v]) Q E s := by
  refine callType_new F.called_enumerate (by decide) (F.typeCall_enumerate_1 _) (F.newCall_enumerate_1 _) (fun obj => F.args_object_init_2 obj _) F.entry_enumerate_new
    (meets_enum1 B) ⟨h1, ?_⟩
  have hz : (s.heap.push o).objs.size = s.heap.objs.size + 1 := Heap.size_push ..
  show _ ∧ _
  rw [hz]
  have he : IsEnum ((s.heap.push o).push { cls := .type "enumerate", data := .fields #[.none, .bool false, .ref s.heap.objs.size, rawInt 0, .none, .none] }) (s.heap.objs.size + 1) s.heap.objs.size 0 .none := by
    have := Heap.get?_push_size (s.heap.push o) (o := { cls := .type "enumerate", data := .fields #[.none, .bool false, .ref s.heap.objs.size, rawInt 0, .none, .none] }) rfl
    rw [hz] at this; exact this
  refine ⟨⟨_, he, rfl⟩, h _ he (Heap.get?_push_of_some _ (Heap.get?_push_size _ B.free)) (by rw [Heap.size_push, hz]) fun b o x => Heap.get?_push_of_some _ (Heap.get?_push_of_some _ x)⟩
theorem enum_endT {prog : Program} {w : World} {A : Around} {E : Value → Shared → Prop} {s : Shared} {e it l : Addr} {i : Nat} {k : Int} {items : Array Value} {old : Value} {Q : Option Value → Shared → Prop} (hh : A.handled = none)
    (he : IsEnum s.heap e it k old) (hit : s.heap.IsTupleIter it l i) (hl : s.heap.IsTuple l items) (hx : items[i]? = none)
    (hQ : ∀ h', Heap.ExtBut it s.heap h' → Q none { s with heap := h' }) : wpAny (model prog w) A (pyNext (.ref e)) Q E s := by
  have hT : s.TypeIs (.ref e) "enumerate" := ⟨_, he, rfl⟩
  unfold pyNext
  refine wpAny_bind (wpAny_attempt (wpAny_callSpecial?_slot (name := Str.ofString "__next__") hT F.slot_enumerate_next
    (wpAny_call_entry F.slot_enumerate_next hT F.entry_enumerate_next ?_ (F.args_enumerate_next_1 _))))
  show wpAny _ _ (field (.ref e) 2 >>= _) _ _ _
  refine wpAny_bind (wpAny_field he rfl (x := .ref it) rfl ?_)
  refine wpAny_bind (wpAny_nextOf_tuple_end (show A.in1.handled = none from hh) hit hl hx fun h' x he' hx' => ?_)
  obtain ⟨o, ho, hc⟩ := hx'
  refine wpAny_bind (wpAny_isInstance (T := "StopIteration") (b := true) ⟨o, ho, hc⟩ isSubtype_stop ?_)
  exact wpAny_pure (hQ _ he')
/-- a tuple, numbered -/
def IteT (K : PySem.W.Frag) (a : Addr) : It :=
  ⟨fun i H => ∃ (xs : List V) (x : V), SqT K H a xs ∧ xs[i]? = some x, fun i H v H' => ∃ T x, v = .ref T ∧ H T = none ∧ H' = upd H T (.tup [.int (i : Nat), x]) ∧ ∀ xs, SqT K H a xs → xs[i]? = some x, fun i H => ∃ xs : List V, SqT K H a xs ∧ xs.length ≤ i⟩
theorem turn_enumT {P : Program} {w : World} {K : PySem.W.Frag} {elts : List Expr} {kk : Nat} {tpos : Pos} (a e it : Addr) (hai : a ≠ it) (hae : a ≠ e) :
    Turn P w K (.Tuple elts kk tpos) (IteT K a) [e, it] e (fun i h => (∃ old, IsEnum h e it ((i : Nat) : Int) old) ∧ h.IsTupleIter it a i ∧ e ≠ it) where
  mem := by simp
  obj := fun i h st b hb => by
    obtain ⟨⟨old, he⟩, ⟨o, ho, hc, hd⟩, _⟩ := st
    have e' : b = e ∨ b = it := by simpa using hb
    rcases e' with z | z
    · rw [z]; exact ⟨_, he, fun v q => nomatch q⟩
    · rw [z]; exact ⟨o, ho, fun v q => by rw [hd] at q; cases q⟩
  keep := fun i h h' st k => let ⟨⟨old, he⟩, hi, hne⟩ := st; ⟨⟨old, k e (by simp) _ he⟩, hi.at fun o q => k it (by simp) o q, hne⟩
  item := by
    intro X hP hw hK hc i pins s σ H E I hf st hg
    subst hP hw hK
    obtain ⟨⟨old, he⟩, hit, hne⟩ := st
    obtain ⟨xs, x, hq, hx⟩ := hg
    obtain ⟨its, rv, p, hz⟩ := I.tuple hq
    obtain ⟨u, hu, ru⟩ := rv.get hx
    have hel : e < s.heap.objs.size := Heap.lt_size he
    have hil : it < s.heap.objs.size := by obtain ⟨_, q, _⟩ := hit; exact Heap.lt_size q
    have hlt : i < its.toArray.size := by rw [List.size_toArray]; exact (List.getElem?_eq_some_iff.mp hu).1
    have D : Draws X.prog X.w X.A.in1 it [it, a] its.toArray.size _ _ := Draws.tuple (show X.A.in1.handled = none from I.ok.hd hc) it a hai its.toArray
    refine wpAny_pyNext_enum_itemC (c := (i : Int)) D he ⟨hit, p⟩ hlt hne (by simp [hne, Ne.symm hae]) fun u' h' tk hP ho hst hT hsz hk => ?_
    have eu : u' = u := by
      have hP : its.toArray[i]? = some u' := hP
      rw [List.getElem?_toArray, hu] at hP
      exact (Option.some.inj hP).symm
    subst eu
    refine ⟨_, rfl, wpAny_letOwnedTupleGo_enum (s := { s with heap := h', toks := tk + 1 }) ho fun h'' he' sb => ?_⟩
    have hT2 : h''.get? s.heap.objs.size = some { cls := .type "tuple", data := .seq #[.int i tk, u'] } := (sb.2 _ (Nat.ne_of_gt hel)).trans hT
    have new : ObjOk X.prog X.w (upd H s.heap.objs.size (.tup [.int (i : Nat), x])) h'' s.heap.objs.size (.tup [.int (i : Nat), x]) :=
      ⟨by show 2 ≤ sizeLine; decide, [.int i tk, u'], .cons ⟨_, rfl⟩ (.cons ru .nil), ⟨_, hT2, rfl, _, rfl⟩⟩
    have I1 : Inv X pins σ (upd H s.heap.objs.size (.tup [.int (i : Nat), x])) { s with heap := h'', toks := tk + 1 } :=
      I.turnedNew (ch := [e, it]) (fun b ob hb q => (sb.2 b (fun z => hb (by simp [z]))).trans (hk b ob (fun z => hb (by simp [z])) (fun z => hb (by simp [z])) q)) hf (Nat.le_refl _) new
    refine ⟨.ref s.heap.objs.size, _, I1, rfl, ⟨_, x, rfl, I.hok.fresh (Nat.le_refl _), rfl, fun ys hy => by rw [I.tuple_inj hy hq]; exact hx⟩, ⟨⟨u', ?_⟩, hst.1.at fun o q => (sb.2 it (Ne.symm hne)).trans q, hne⟩, fun b hb => ?_⟩
    · have e1 : ((i + 1 : Nat) : Int) = (i : Int) + 1 := by omega
      rw [e1]; exact he'
    · have hb' : b < s.heap.objs.size := by
        have e' : b = e ∨ b = it := by simpa using hb
        rcases e' with z | z
        · rw [z]; exact hel
        · rw [z]; exact hil
      rw [upd_ne (Nat.ne_of_lt hb')]
      exact (hf b hb).1
  done := by
    intro X hP hw hK hc i pins s σ H E I hf st hg
    subst hP hw hK
    obtain ⟨⟨old, he⟩, hit, hne⟩ := st
    obtain ⟨xs, hq, hx⟩ := hg
    obtain ⟨its, rv, p, hz⟩ := I.tuple hq
    obtain ⟨f0, f1, f2, f3, f4, f5⟩ := hf it (by simp)
    have hl := rv.length
    exact enum_endT (I.ok.hd hc) he hit p (by simp; omega) fun h' eb => ⟨rfl, I.turned (t' := s.toks) (fun b o hb q => eb b o hb q) f0 f1 f3 f4 f5⟩
  self := fun A i s Q E st h => let ⟨⟨_, he⟩, _⟩ := st; wpAny_pyIter_enum he h

/-! ### what is walked, by values -/
inductive Src where
  | st (ds : List D) | lv (f : Sto → Option (List D))
def numb : Int → List D → List D
  | _, [] => []
  | i, d :: ds => .tup [.int i, d] :: numb (i + 1) ds
def pairs : List D → List D → List D
  | a :: as, b :: bs => .tup [a, b] :: pairs as bs
  | _, _ => []
def irow : Int → Nat → List D
  | _, 0 => []
  | i, n + 1 => .int i :: irow (i + 1) n
def refv (n : Nat) (S : Sto) : Option (List D) := match S.get n with
  | some (.lst ds) => some ds
  | _ => none
/-- what stands there now -/
def look : Src → Sto → Option (List D)
  | .st ds, _ => some ds
  | .lv f, S => f S
/-- the iterator J gives what src holds, as it stands at each turn -/
def relI (tg : Expr) (U : Wd) (G : Gh) (H : Hp) (src : Src) (J : It) : Prop := ∀ G' H' S ds, Step G H G' H' → RelS U G' S H' → look src S = some ds → ∀ i,
  (∀ d, ds[i]? = some d → J.go i H' ∧ ∀ x H'', J.yld i H' x H'' → ∃ G'', Step G' H' G'' H'' ∧ RelS U G'' S H'' ∧ DVt tg U G'' H'' d x) ∧ (ds[i]? = none → J.stop i H')
abbrev EI := Env → Sto → R Src
def tIv (tg : Expr) (U : Wd) (m : EI) (W : WX) : TI := fun σ H R => ∃ G ρ S, RelS U G S H ∧ RelE U G ρ σ H ∧ Go (relI tg U) U W σ G H (m ρ S) (fun J H' => R J H')
def CI (X : Cx) (tg iter : Expr) (m : EI) : Prop := ∀ W, Takes X W → PI X tg iter (tIv tg (wd X) m W)
theorem PI.imp {X : Cx} {tg it : Expr} {t t' : TI} (h : PI X tg it t) (i : ∀ σ H R, t' σ H R → t σ H R) : PI X tg it t' := ⟨fun p s σ H R I q => h.run p s σ H R I (i σ H R q)⟩
theorem DVs.get {U : Wd} {G : Gh} {H : Hp} {ds : List D} {vs : List V} (q : DVs U G H ds vs) (i : Nat) : (∀ d, ds[i]? = some d → ∃ v, vs[i]? = some v ∧ DV U G H d v) ∧ (ds[i]? = none → vs.length ≤ i) :=
  ⟨fun d h => q.at h, fun h => by rw [q.length]; exact List.getElem?_eq_none_iff.mp h⟩
/-- the values behind a source -/
def Seqs (U : Wd) (G : Gh) (H : Hp) (src : Src) (P : Hp → List V → Prop) : Prop := ∀ G' H' S ds, Step G H G' H' → RelS U G' S H' → look src S = some ds → ∃ vs, P H' vs ∧ DVs U G' H' ds vs
theorem relI_list {tg : Expr} {U : Wd} {G : Gh} {H : Hp} {src : Src} {a : Addr} (hs : Seqs U G H src fun H' vs => SqL U.K H' a vs) : relI tg U G H src (Itl U.K a) := by
  intro G' H' S ds s rs hl i
  obtain ⟨vs, hP, q⟩ := hs G' H' S ds s rs hl
  refine ⟨fun d hd => ?_, fun hn => ⟨vs, hP, (q.get i).2 hn⟩⟩
  obtain ⟨v, hv, dv⟩ := (q.get i).1 d hd
  refine ⟨⟨vs, v, hP, hv⟩, fun x H'' ⟨e, h⟩ => ?_⟩
  have h := h vs hP
  rw [hv] at h; cases h
  subst e
  exact ⟨G', Step.refl, rs, DVt.of dv⟩
theorem relI_tup {tg : Expr} {U : Wd} {G : Gh} {H : Hp} {src : Src} {a : Addr} (hs : Seqs U G H src fun H' vs => SqT U.K H' a vs) : relI tg U G H src (Itt U.K a) := by
  intro G' H' S ds s rs hl i
  obtain ⟨vs, hP, q⟩ := hs G' H' S ds s rs hl
  refine ⟨fun d hd => ?_, fun hn => ⟨vs, hP, (q.get i).2 hn⟩⟩
  obtain ⟨v, hv, dv⟩ := (q.get i).1 d hd
  refine ⟨⟨vs, v, hP, hv⟩, fun x H'' ⟨e, h⟩ => ?_⟩
  have h := h vs hP
  rw [hv] at h; cases h
  subst e
  exact ⟨G', Step.refl, rs, DVt.of dv⟩
/-- what a value holds, as a source -/
def srcOf (d : D) (S : Sto) : Option Src := match d with
  | .lst ds => some (.st ds)
  | .tup ds => some (.st ds)
  | .ref n => (match S.get n with
    | some (.lst _) => some (.lv (refv n))
    | _ => none)
  | _ => none
theorem srcOf_ok {U : Wd} {G : Gh} {S : Sto} {H : Hp} {d : D} {v : V} {src : Src} (rs : RelS U G S H) (q : DV U G H d v) (h : srcOf d S = some src) : ∃ a, v = .ref a ∧ (((∃ xs, SqL U.K H a xs) ∧ Seqs U G H src fun H' vs => SqL U.K H' a vs) ∨ ((∃ xs, SqT U.K H a xs) ∧ Seqs U G H src fun H' vs => SqT U.K H' a vs)) := by
  cases d with
  | lst ds =>
    cases h
    obtain ⟨a, vs, rfl, t, q⟩ := q
    refine ⟨a, rfl, .inl ⟨⟨vs, t.sq⟩, fun G' H' S ds' s rs hl => ?_⟩⟩
    cases hl
    exact ⟨vs, (t.mono s).sq, q.mono s⟩
  | tup ds =>
    cases h
    obtain ⟨a, vs, rfl, t, q⟩ := q
    refine ⟨a, rfl, .inr ⟨⟨vs, t.sq⟩, fun G' H' S ds' s rs hl => ?_⟩⟩
    cases hl
    exact ⟨vs, (t.mono s).sq, q.mono s⟩
  | ref n =>
    unfold srcOf at h
    dsimp only at h
    cases e : S.get n with
    | none => rw [e] at h; cases h
    | some o =>
      rw [e] at h
      cases o with
      | lst ds =>
        cases h
        obtain ⟨hn, rfl⟩ := q
        obtain ⟨vs, e1, q⟩ := rs.at_ n _ e
        refine ⟨_, rfl, .inl ⟨⟨vs, .inl (.inl e1)⟩, fun G' H' S' ds' s rs' hl => ?_⟩⟩
        have hl : refv n S' = some ds' := hl
        unfold refv at hl
        split at hl
        · rename_i ds2 e2
          cases hl
          obtain ⟨ws, e3, q3⟩ := rs'.at_ n _ e2
          rw [s.ι n hn] at e3
          exact ⟨ws, .inl (.inl e3), q3⟩
        · cases hl
      | _ => cases h
  | _ => cases h
def signs : List Nat → List D
  | [] => []
  | c :: l => .str [c] :: signs l
theorem signs_get : ∀ (l : List Nat) (i : Nat) (d : D), (signs l)[i]? = some d → ∃ c, l[i]? = some c ∧ d = .str [c]
  | [], i, d, h => by simp [signs] at h
  | c :: l, 0, d, h => by simp [signs] at h; exact ⟨c, rfl, h.symm⟩
  | c :: l, i + 1, d, h => by simp [signs] at h; simpa using signs_get l i d h
theorem signs_len : ∀ l : List Nat, (signs l).length = l.length
  | [] => rfl
  | _ :: l => by simp [signs, signs_len l]
theorem irow_get : ∀ (n : Nat) (lo : Int) (i : Nat) (d : D), (irow lo n)[i]? = some d → i < n ∧ d = .int (lo + i)
  | 0, _, i, d, h => by simp [irow] at h
  | n + 1, lo, 0, d, h => by simp [irow] at h; exact ⟨Nat.succ_pos _, by rw [← h]; simp⟩
  | n + 1, lo, i + 1, d, h => by
    simp [irow] at h
    obtain ⟨h1, h2⟩ := irow_get n (lo + 1) i d h
    refine ⟨Nat.succ_lt_succ h1, ?_⟩
    rw [h2]; congr 1; omega
theorem irow_len : ∀ (n : Nat) (lo : Int), (irow lo n).length = n
  | 0, _ => rfl
  | n + 1, lo => by simp [irow, irow_len n]
theorem relI_str {tg : Expr} {U : Wd} {G : Gh} {H : Hp} {l : List Nat} : relI tg U G H (.st (signs l)) (Its ⟨l.toArray⟩) := by
  intro G' H' S ds s rs hl i
  cases hl
  refine ⟨fun d hd => ?_, fun hn => ?_⟩
  · obtain ⟨c, hc, rfl⟩ := signs_get l i d hd
    have hi : i < l.length := (List.getElem?_eq_some_iff.mp hc).1
    refine ⟨by show i < l.toArray.size; rw [List.size_toArray]; exact hi, fun x H'' ⟨e, c', hc', ex⟩ => ?_⟩
    subst e ex
    have hc' : l.toArray[i]? = some c' := hc'
    rw [List.getElem?_toArray, hc] at hc'
    cases hc'
    exact ⟨G', Step.refl, rs, DVt.of rfl⟩
  · have := List.getElem?_eq_none_iff.mp hn
    rw [signs_len] at this
    show l.toArray.size ≤ i
    rw [List.size_toArray]; exact this
theorem relI_rng {tg : Expr} {U : Wd} {G : Gh} {H : Hp} {lo : Int} {n : Nat} : relI tg U G H (.st (irow lo n)) (Itr lo n) := by
  intro G' H' S ds s rs hl i
  cases hl
  refine ⟨fun d hd => ?_, fun hn => ?_⟩
  · obtain ⟨h1, rfl⟩ := irow_get n lo i d hd
    exact ⟨h1, fun x H'' ⟨e, ex⟩ => by subst e ex; exact ⟨G', Step.refl, rs, DVt.of rfl⟩⟩
  · have := List.getElem?_eq_none_iff.mp hn
    rw [irow_len] at this
    exact this
def lkE (f : List D → List D) : Src → Src
  | .st ds => .st (f ds)
  | .lv g => .lv fun S => (g S).map f
theorem lkE_look {f : List D → List D} {src : Src} {S : Sto} {ds : List D} (h : look (lkE f src) S = some ds) : ∃ es, look src S = some es ∧ ds = f es := by
  cases src with
  | st es => cases h; exact ⟨es, rfl, rfl⟩
  | lv g =>
    have h : (g S).map f = some ds := h
    cases e : g S with
    | none => rw [e] at h; cases h
    | some es => rw [e] at h; cases h; exact ⟨es, e, rfl⟩
theorem numb_get : ∀ (ds : List D) (k : Int) (i : Nat) (d : D), (numb k ds)[i]? = some d → ∃ e, ds[i]? = some e ∧ d = .tup [.int (k + i), e]
  | [], k, i, d, h => by simp [numb] at h
  | e :: ds, k, 0, d, h => by simp [numb] at h; exact ⟨e, rfl, by rw [← h]; simp⟩
  | e :: ds, k, i + 1, d, h => by
    simp [numb] at h
    obtain ⟨e', h1, h2⟩ := numb_get ds (k + 1) i d h
    refine ⟨e', by simpa using h1, ?_⟩
    rw [h2]
    have : k + 1 + (i : Int) = k + ((i + 1 : Nat) : Int) := by omega
    rw [this]
theorem numb_len : ∀ (ds : List D) (k : Int), (numb k ds).length = ds.length
  | [], _ => rfl
  | _ :: ds, k => by simp [numb, numb_len ds]
theorem new_pair {U : Wd} {G : Gh} {S : Sto} {H : Hp} {T : Addr} {d e : D} {v w : V} (rs : RelS U G S H) (hT : H T = none) (qd : DV U G H d v) (qe : DV U G H e w) : Step G H G (upd H T (.tup [v, w])) ∧ RelS U G S (upd H T (.tup [v, w])) ∧ DVw U G (upd H T (.tup [v, w])) (.tup [d, e]) (.ref T) :=
  ⟨step_new rs hT, rel_new rs hT, .inr ⟨_, T, _, rfl, rfl, .inl ⟨.inl upd_same, rs.ns hT⟩, DVs.mono (step_new rs hT) ⟨v, _, rfl, qd, w, [], rfl, qe, rfl⟩⟩⟩
theorem relI_enL {es0 : List Expr} {k0 : Nat} {p0 : Pos} {U : Wd} {G : Gh} {H : Hp} {src : Src} {a : Addr} (hs : Seqs U G H src fun H' vs => SqL U.K H' a vs) : relI (.Tuple es0 k0 p0) U G H (lkE (numb 0) src) (Ite U.K a) := by
  intro G' H' S ds s rs hl i
  obtain ⟨es, hl2, rfl⟩ := lkE_look hl
  obtain ⟨vs, hP, q⟩ := hs G' H' S es s rs hl2
  refine ⟨fun d hd => ?_, fun hn => ⟨vs, hP, ?_⟩⟩
  · obtain ⟨e, he, rfl⟩ := numb_get es 0 i d hd
    obtain ⟨v, hv, dv⟩ := (q.get i).1 e he
    refine ⟨⟨vs, v, hP, hv⟩, fun x H'' ⟨T, y, ex, hT, eH, h⟩ => ?_⟩
    have h := h vs hP
    rw [hv] at h; cases h
    subst ex eH
    rw [Int.zero_add]
    exact ⟨G', new_pair rs hT rfl dv⟩
  · have := List.getElem?_eq_none_iff.mp hn
    rw [numb_len] at this
    rw [q.length]; exact this
theorem relI_enT {es0 : List Expr} {k0 : Nat} {p0 : Pos} {U : Wd} {G : Gh} {H : Hp} {src : Src} {a : Addr} (hs : Seqs U G H src fun H' vs => SqT U.K H' a vs) : relI (.Tuple es0 k0 p0) U G H (lkE (numb 0) src) (IteT U.K a) := by
  intro G' H' S ds s rs hl i
  obtain ⟨es, hl2, rfl⟩ := lkE_look hl
  obtain ⟨vs, hP, q⟩ := hs G' H' S es s rs hl2
  refine ⟨fun d hd => ?_, fun hn => ⟨vs, hP, ?_⟩⟩
  · obtain ⟨e, he, rfl⟩ := numb_get es 0 i d hd
    obtain ⟨v, hv, dv⟩ := (q.get i).1 e he
    refine ⟨⟨vs, v, hP, hv⟩, fun x H'' ⟨T, y, ex, hT, eH, h⟩ => ?_⟩
    have h := h vs hP
    rw [hv] at h; cases h
    subst ex eH
    rw [Int.zero_add]
    exact ⟨G', new_pair rs hT rfl dv⟩
  · have := List.getElem?_eq_none_iff.mp hn
    rw [numb_len] at this
    rw [q.length]; exact this
def lkZ : Src → Src → Src
  | .st ds, .st es => .st (pairs ds es)
  | a, b => .lv fun S => match look a S, look b S with
    | some ds, some es => some (pairs ds es)
    | _, _ => none
theorem lkZ_look {a b : Src} {S : Sto} {ds : List D} (h : look (lkZ a b) S = some ds) : ∃ es fs, look a S = some es ∧ look b S = some fs ∧ ds = pairs es fs := by
  have h2 : (match look a S, look b S with
    | some ds, some es => some (pairs ds es)
    | _, _ => none) = some ds := by
    cases a <;> cases b <;> exact h
  split at h2
  · rename_i es fs e1 e2
    cases h2
    exact ⟨es, fs, e1, e2, rfl⟩
  · cases h2
theorem pairs_get : ∀ (ds es : List D) (i : Nat), (∀ d, (pairs ds es)[i]? = some d → ∃ a b, ds[i]? = some a ∧ es[i]? = some b ∧ d = .tup [a, b]) ∧ ((pairs ds es)[i]? = none → ds.length ≤ i ∨ es.length ≤ i)
  | [], es, i => ⟨fun d h => by simp [pairs] at h, fun _ => .inl (Nat.zero_le _)⟩
  | _ :: _, [], i => ⟨fun d h => by simp [pairs] at h, fun _ => .inr (Nat.zero_le _)⟩
  | a :: ds, b :: es, 0 => ⟨fun d h => by simp [pairs] at h; exact ⟨a, b, rfl, rfl, h.symm⟩, fun h => by simp [pairs] at h⟩
  | a :: ds, b :: es, i + 1 => by
    obtain ⟨h1, h2⟩ := pairs_get ds es i
    refine ⟨fun d h => ?_, fun h => ?_⟩
    · simp [pairs] at h; simpa using h1 d h
    · have h : (pairs ds es)[i]? = none := by simpa [pairs] using h
      rcases h2 h with z | z
      · exact .inl (Nat.succ_le_succ z)
      · exact .inr (Nat.succ_le_succ z)
theorem relI_zip {es0 : List Expr} {k0 : Nat} {p0 : Pos} {U : Wd} {G : Gh} {H : Hp} {s1 s2 : Src} {a b : Addr} (hs : Seqs U G H s1 fun H' vs => SqL U.K H' a vs) (ht : Seqs U G H s2 fun H' vs => SqL U.K H' b vs) : relI (.Tuple es0 k0 p0) U G H (lkZ s1 s2) (Itz U.K a b) := by
  intro G' H' S ds s rs hl i
  obtain ⟨es, fs, h1, h2, rfl⟩ := lkZ_look hl
  obtain ⟨vs, hP, q⟩ := hs G' H' S es s rs h1
  obtain ⟨ws, hQ, r⟩ := ht G' H' S fs s rs h2
  refine ⟨fun d hd => ?_, fun hn => ⟨vs, ws, hP, hQ, ?_⟩⟩
  · obtain ⟨x, y, hx, hy, rfl⟩ := (pairs_get es fs i).1 d hd
    obtain ⟨v, hv, dv⟩ := (q.get i).1 x hx
    obtain ⟨w, hw, dw⟩ := (r.get i).1 y hy
    refine ⟨⟨vs, ws, v, w, hP, hQ, hv, hw⟩, fun z H'' ⟨T, x', y', ex, hT, eH, h, k⟩ => ?_⟩
    have h := h vs hP
    have k := k ws hQ
    rw [hv] at h; cases h
    rw [hw] at k; cases k
    subst ex eH
    exact ⟨G', new_pair rs hT dv dw⟩
  · rw [q.length, r.length]; exact (pairs_get es fs i).2 hn
theorem relI_zipT {es0 : List Expr} {k0 : Nat} {p0 : Pos} {U : Wd} {G : Gh} {H : Hp} {s1 s2 : Src} {a b : Addr} (hs : Seqs U G H s1 fun H' vs => SqT U.K H' a vs) (ht : Seqs U G H s2 fun H' vs => SqT U.K H' b vs) : relI (.Tuple es0 k0 p0) U G H (lkZ s1 s2) (RZ.ItzT U.K a b) := by
  intro G' H' S ds s rs hl i
  obtain ⟨es, fs, h1, h2, rfl⟩ := lkZ_look hl
  obtain ⟨vs, hP, q⟩ := hs G' H' S es s rs h1
  obtain ⟨ws, hQ, r⟩ := ht G' H' S fs s rs h2
  refine ⟨fun d hd => ?_, fun hn => ⟨vs, ws, hP, hQ, ?_⟩⟩
  · obtain ⟨x, y, hx, hy, rfl⟩ := (pairs_get es fs i).1 d hd
    obtain ⟨v, hv, dv⟩ := (q.get i).1 x hx
    obtain ⟨w, hw, dw⟩ := (r.get i).1 y hy
    refine ⟨⟨vs, ws, v, w, hP, hQ, hv, hw⟩, fun z H'' ⟨T, x', y', ex, hT, eH, h, k⟩ => ?_⟩
    have h := h vs hP
    have k := k ws hQ
    rw [hv] at h; cases h
    rw [hw] at k; cases k
    subst ex eH
    exact ⟨G', new_pair rs hT dv dw⟩
  · rw [q.length, r.length]; exact (pairs_get es fs i).2 hn
end Z

/-! Z11: walks, loops, op=, defs. -/
namespace Z
open PySem PySem.Spec PyProof PyProof.Rows L2
section
variable {X : Cx} {pos : Pos} {tg : Expr}
/-! ### the walk's beginning -/
def iAny (K : PySem.W.Frag) (tl : TE) : TI := fun σ H R => tl σ H fun x H1 => (∃ a, x = .ref a ∧ (∃ xs, SqL K H1 a xs) ∧ R (Itl K a) H1) ∨ (∃ a, x = .ref a ∧ (∃ xs, SqT K H1 a xs) ∧ R (Itt K a) H1) ∨ ∃ z, x = .str z ∧ R (Its z) H1
theorem pi_any {l : Expr} {tl : TE} (hl : PE X l tl) : PI X tg l (iAny X.K tl) := by
  refine ⟨fun pins s σ H R I h => ?_⟩
  refine thn (hl.run pins s σ H _ I h) fun v s1 ⟨x, H1, I1, r1, q1⟩ => ?_
  rcases q1 with ⟨a, rfl, ⟨xs, hq⟩, q⟩ | ⟨a, rfl, ⟨xs, hq⟩, q⟩ | ⟨z, rfl, q⟩
  · cases r1
    obtain ⟨its, rv, p, hz⟩ := I1.list hq
    exact wpAny_pyIter_list p.isList (pi_one (tk := s1.toks) I1 _ (turn_list a _) ⟨_, Heap.get?_push_size _ rfl, rfl, rfl⟩ q)
  · cases r1
    obtain ⟨its, rv, p, hz⟩ := I1.tuple hq
    exact wpAny_pyIter_tuple (show s1.heap.IsTuple a its.toArray from p) (pi_one (tk := s1.toks) I1 _ (turn_tuple a _) ⟨_, Heap.get?_push_size _ rfl, rfl, rfl⟩ q)
  · obtain ⟨t, rfl⟩ := r1
    cases ha : z.cps.all (· < 128)
    · exact wpAny_pyIter_wide ha (pi_one (tk := s1.toks) I1 _ (turn_str _ z t "str_iterator" (.inr rfl)) ⟨_, Heap.get?_push_size _ rfl, rfl, rfl⟩ q)
    · exact wpAny_pyIter_ascii ha (pi_one (tk := s1.toks) I1 _ (turn_str _ z t "str_ascii_iterator" (.inl rfl)) ⟨_, Heap.get?_push_size _ rfl, rfl, rfl⟩ q)
def iSrc (m : E) : EI := fun ρ S => (m ρ S).bind fun d S => match d with
  | .str l => .ok (.st (signs l)) S
  | d => (match srcOf d S with
    | some src => .ok src S
    | none => .bad)
theorem ci_any {l : Expr} {m : E} (hl : CE X l m) : CI X tg l (iSrc m) := fun W tk => PI.imp (pi_any (hl W tk)) fun σ H R ⟨G, ρ, S, rs, re, h⟩ => by
  obtain ⟨G0, ρ0, S0, a, b, c⟩ := tEv.bind rs re h
  refine ⟨G0, ρ0, S0, a, b, Go.mono c fun v H1 ⟨G1, d, S1, s, rs1, re1, dv, g⟩ => ?_⟩
  have other : ∀ src, srcOf d S1 = some src → Go (relI tg (wd X)) (wd X) W σ G1 H1 (.ok src S1) (fun J H' => R J H') → (∃ a, v = .ref a ∧ (∃ xs, SqL X.K H1 a xs) ∧ R (Itl X.K a) H1) ∨ (∃ a, v = .ref a ∧ (∃ xs, SqT X.K H1 a xs) ∧ R (Itt X.K a) H1) ∨ ∃ z, v = .str z ∧ R (Its z) H1 := fun src e g => by
    obtain ⟨a, rfl, h⟩ := srcOf_ok rs1 dv e
    rcases h with ⟨h1, h2⟩ | ⟨h1, h2⟩
    · exact .inl ⟨a, rfl, h1, Go.ret g rs1 (relI_list h2)⟩
    · exact .inr (.inl ⟨a, rfl, h1, Go.ret g rs1 (relI_tup h2)⟩)
  cases d with
  | str l =>
    have dv : v = _ := dv
    subst dv
    exact .inr (.inr ⟨_, rfl, Go.ret g rs1 relI_str⟩)
  | tup ds => exact other _ rfl g
  | lst ds => exact other _ rfl g
  | ref n =>
    dsimp only at g
    cases e : srcOf (.ref n) S1 with
    | none => rw [e] at g; exact g.elim
    | some src => rw [e] at g; exact other src e g
  | _ => exact g.elim
def small (i : Int) : Bool := decide (-16777216 ≤ i ∧ i ≤ 16777216)
theorem small_of {i : Int} (h : small i = true) : -16777216 ≤ i ∧ i ≤ 16777216 := of_decide_eq_true h
def iRg1 (ma : As) : EI := fun ρ S => (ma ρ S).bind fun ds S => match ds with
  | [.int j] => if small j = true then .ok (.st (irow 0 j.toNat)) S else .bad
  | _ => .bad
def iRg2 (ma : As) : EI := fun ρ S => (ma ρ S).bind fun ds S => match ds with
  | [.int i, .int j] => if small i = true ∧ small j = true then .ok (.st (irow i (j - i).toNat)) S else .bad
  | _ => .bad
theorem ci_range1 {a : Expr} {ma : As} {p : Pos} (hg : Gl X "range") (hm : X.mg "range" = none) (ha : CA X [a] ma) (hs : starEach [a] X.env = [(false, eval a X.env)] := by rfl) : CI X tg (.Call (.Name "range" p) [a] [] pos) (iRg1 ma) := fun W tk => PI.imp (pi_range1 hg hm (ha W tk) hs) fun σ H R ⟨G, ρ, S, rs, re, h⟩ => by
  obtain ⟨G0, ρ0, S0, a, b, c⟩ := tAv.bind rs re h
  refine ⟨G0, ρ0, S0, a, b, Go.mono c fun vs H1 ⟨G1, ds, S1, s, rs1, re1, dvs, g⟩ => ?_⟩
  split at g
  · rename_i j
    obtain ⟨v, r, rfl, q1, q2⟩ := dvs
    have q2 : r = [] := q2
    have q1 : v = _ := q1
    subst q1 q2
    split at g
    · rename_i hj
      have := small_of hj
      exact ⟨j, rfl, by omega, by omega, Go.ret g rs1 relI_rng⟩
    · exact g.elim
  · exact g.elim
theorem ci_range2 {a b : Expr} {ma : As} {p : Pos} (hg : Gl X "range") (hm : X.mg "range" = none) (ha : CA X [a, b] ma) (hs : starEach [a, b] X.env = [(false, eval a X.env), (false, eval b X.env)] := by rfl) (hs2 : starEach [b] X.env = [(false, eval b X.env)] := by rfl) :
    CI X tg (.Call (.Name "range" p) [a, b] [] pos) (iRg2 ma) := fun W tk => PI.imp (pi_range2 hg hm (ha W tk) hs hs2) fun σ H R ⟨G, ρ, S, rs, re, h⟩ => by
  obtain ⟨G0, ρ0, S0, a, b, c⟩ := tAv.bind rs re h
  refine ⟨G0, ρ0, S0, a, b, Go.mono c fun vs H1 ⟨G1, ds, S1, s, rs1, re1, dvs, g⟩ => ?_⟩
  split at g
  · rename_i i j
    obtain ⟨v, r, rfl, q1, w, r2, rfl, q3, q2⟩ := dvs
    have q2 : r2 = [] := q2
    have q1 : v = _ := q1
    have q3 : w = _ := q3
    subst q1 q2 q3
    split at g
    · rename_i hj
      have := small_of hj.1
      have := small_of hj.2
      exact ⟨i, j, rfl, by omega, Go.ret g rs1 relI_rng⟩
    · exact g.elim
  · exact g.elim
/-- enumerate(..) -/
def iEnumA (K : PySem.W.Frag) (ta : TA) : TI := fun σ H R => ta σ H fun vs H1 => ∃ a, vs = [.ref a] ∧ (((∃ xs, SqL K H1 a xs) ∧ R (Ite K a) H1) ∨ ((∃ xs, SqT K H1 a xs) ∧ R (IteT K a) H1))
theorem pi_enumA {e : Expr} {ta : TA} {p tpos : Pos} {elts : List Expr} {kk : Nat} (hg : Gl X "enumerate") (hm : X.mg "enumerate" = none) (ha : PA X [e] ta) (hs : starEach [e] X.env = [(false, eval e X.env)] := by rfl) :
    PI X (.Tuple elts kk tpos) (.Call (.Name "enumerate" p) [e] [] pos) (iEnumA X.K ta) := by
  refine ⟨fun pins s σ H R I h => ?_⟩
  refine Call_ (ld_blt I hg hm boot_enumerate (PyProof.Rows.callWith_type1 (thn (ha.run pos pins s σ H _ I h) fun us s1 ⟨vs, H1, I1, r1, q1⟩ => ?_) hs rfl))
  obtain ⟨a, ex, q1⟩ := q1
  subst ex
  cases r1 with
  | cons r rr =>
    cases rr
    cases r
    have two : ∀ {b : Addr}, b ∈ [s1.heap.objs.size + 1, s1.heap.objs.size] → FpOk X pins H1 b := fun {b} hb => by
      have e' : b = s1.heap.objs.size + 1 ∨ b = s1.heap.objs.size := by simpa using hb
      have hle : s1.heap.objs.size ≤ b := by
        rcases e' with z | z
        · rw [z]; exact Nat.le_add_right _ _
        · rw [z]; exact Nat.le_refl _
      exact I1.fpOk hle (I1.hok.fresh hle)
    rcases q1 with ⟨⟨xs, hq⟩, q⟩ | ⟨⟨xs, hq⟩, q⟩
    · obtain ⟨its, rv, p', hz⟩ := I1.list hq
      refine call_enumerate_list p'.isList fun h' he hit hsz hk => wpAny_pyIter_enum he ?_
      have I2 : Inv X pins σ H1 { s1 with heap := h' } := I1.kept (t' := s1.toks) hk
      exact ⟨s1.heap.objs.size + 1, [s1.heap.objs.size + 1, s1.heap.objs.size], _, _, H1, rfl, I2, turn_enum a (s1.heap.objs.size + 1) s1.heap.objs.size, ⟨⟨.none, he⟩, hit, Nat.succ_ne_self _⟩, fun b hb => two hb, q⟩
    · obtain ⟨its, rv, p', hz⟩ := I1.tuple hq
      refine enum_begins1 (begins_tuple a its.toArray) p' fun h' he hit hsz hk => wpAny_pyIter_enum he ?_
      have I2 : Inv X pins σ H1 { s1 with heap := h' } := I1.kept (t' := s1.toks) hk
      have hlt : a < s1.heap.objs.size := by obtain ⟨o, e, _⟩ := p'; exact Heap.lt_size e
      exact ⟨s1.heap.objs.size + 1, [s1.heap.objs.size + 1, s1.heap.objs.size], _, _, H1, rfl, I2, turn_enumT a (s1.heap.objs.size + 1) s1.heap.objs.size (Nat.ne_of_lt hlt) (Nat.ne_of_lt (Nat.lt_succ_of_lt hlt)), ⟨⟨.none, he⟩, ⟨_, hit, rfl, rfl⟩, Nat.succ_ne_self _⟩, fun b hb => two hb, q⟩
def iEn (ma : As) : EI := fun ρ S => (ma ρ S).bind fun ds S => match ds with
  | [d] => (match srcOf d S with
    | some src => .ok (lkE (numb 0) src) S
    | none => .bad)
  | _ => .bad
theorem ci_enum {e : Expr} {ma : As} {p tpos : Pos} {elts : List Expr} {kk : Nat} (hg : Gl X "enumerate") (hm : X.mg "enumerate" = none) (ha : CA X [e] ma) (hs : starEach [e] X.env = [(false, eval e X.env)] := by rfl) :
    CI X (.Tuple elts kk tpos) (.Call (.Name "enumerate" p) [e] [] pos) (iEn ma) := fun W tk => PI.imp (pi_enumA hg hm (ha W tk) hs) fun σ H R ⟨G, ρ, S, rs, re, h⟩ => by
  obtain ⟨G0, ρ0, S0, a, b, c⟩ := tAv.bind rs re h
  refine ⟨G0, ρ0, S0, a, b, Go.mono c fun vs H1 ⟨G1, ds, S1, s, rs1, re1, dvs, g⟩ => ?_⟩
  split at g
  · rename_i d
    obtain ⟨v, r, rfl, q1, q2⟩ := dvs
    have q2 : r = [] := q2
    subst q2
    split at g
    · rename_i src e
      obtain ⟨a, rfl, h⟩ := srcOf_ok rs1 q1 e
      refine ⟨a, rfl, ?_⟩
      rcases h with ⟨h1, h2⟩ | ⟨h1, h2⟩
      · exact .inl ⟨h1, Go.ret g rs1 (relI_enL h2)⟩
      · exact .inr ⟨h1, Go.ret g rs1 (relI_enT h2)⟩
    · exact g.elim
  · exact g.elim
def isTupD : D → Bool
  | .tup _ => true
  | _ => false
def iZp (ma : As) : EI := fun ρ S => (ma ρ S).bind fun ds S => match ds with
  | [d, e] => if isTupD d = isTupD e then (match srcOf d S, srcOf e S with
    | some s1, some s2 => .ok (lkZ s1 s2) S
    | _, _ => .bad) else .bad
  | _ => .bad
theorem srcOf_ok2 {U : Wd} {G : Gh} {S : Sto} {H : Hp} {d : D} {v : V} {src : Src} (rs : RelS U G S H) (q : DV U G H d v) (h : srcOf d S = some src) : ∃ a, v = .ref a ∧ ((isTupD d = false ∧ (∃ xs, SqL U.K H a xs) ∧ Seqs U G H src fun H' vs => SqL U.K H' a vs) ∨ (isTupD d = true ∧ (∃ xs, SqT U.K H a xs) ∧ Seqs U G H src fun H' vs => SqT U.K H' a vs)) := by
  have z := h
  cases d with
  | lst ds =>
    cases h
    obtain ⟨a, vs, rfl, t, q⟩ := q
    refine ⟨a, rfl, .inl ⟨rfl, ⟨vs, t.sq⟩, fun G' H' S ds' s rs hl => ?_⟩⟩
    cases hl
    exact ⟨vs, (t.mono s).sq, q.mono s⟩
  | tup ds =>
    cases h
    obtain ⟨a, vs, rfl, t, q⟩ := q
    refine ⟨a, rfl, .inr ⟨rfl, ⟨vs, t.sq⟩, fun G' H' S ds' s rs hl => ?_⟩⟩
    cases hl
    exact ⟨vs, (t.mono s).sq, q.mono s⟩
  | ref n =>
    unfold srcOf at h
    dsimp only at h
    cases e : S.get n with
    | none => rw [e] at h; cases h
    | some o =>
      rw [e] at h
      cases o with
      | lst ds =>
        cases h
        obtain ⟨hn, rfl⟩ := q
        obtain ⟨vs, e1, q⟩ := rs.at_ n _ e
        refine ⟨_, rfl, .inl ⟨rfl, ⟨vs, .inl (.inl e1)⟩, fun G' H' S' ds' s rs' hl => ?_⟩⟩
        have hl : refv n S' = some ds' := hl
        unfold refv at hl
        split at hl
        · rename_i ds2 e2
          cases hl
          obtain ⟨ws, e3, q3⟩ := rs'.at_ n _ e2
          rw [s.ι n hn] at e3
          exact ⟨ws, .inl (.inl e3), q3⟩
        · cases hl
      | _ => cases h
  | _ => cases h
theorem ci_zip {e e2 : Expr} {ma : As} {p tpos : Pos} {elts : List Expr} {kk : Nat} (hg : Gl X "zip") (hm : X.mg "zip" = none) (ha : CA X [e, e2] ma)
    (hs : starEach [e, e2] X.env = (false, eval e X.env) :: starEach [e2] X.env := by rfl) (hpl : (backTo pos (starEach [e2] X.env)).any (·.1) = false := by rfl) :
    CI X (.Tuple elts kk tpos) (.Call (.Name "zip" p) [e, e2] [] pos) (iZp ma) := fun W tk => PI.imp (RZ.pi_zipA hg hm (ha W tk) hs hpl) fun σ H R ⟨G, ρ, S, rs, re, h⟩ => by
  obtain ⟨G0, ρ0, S0, a, b, c⟩ := tAv.bind rs re h
  refine ⟨G0, ρ0, S0, a, b, Go.mono c fun vs H1 ⟨G1, ds, S1, s, rs1, re1, dvs, g⟩ => ?_⟩
  split at g
  · rename_i d e
    obtain ⟨v, r, rfl, q1, w, r2, rfl, q3, q2⟩ := dvs
    have q2 : r2 = [] := q2
    subst q2
    split at g
    · rename_i hb
      split at g
      · rename_i s1 s2 e1 e2
        obtain ⟨a, rfl, h⟩ := srcOf_ok2 rs1 q1 e1
        obtain ⟨b, rfl, k⟩ := srcOf_ok2 rs1 q3 e2
        rcases h with ⟨t1, ⟨xs, h1⟩, h2⟩ | ⟨t1, ⟨xs, h1⟩, h2⟩ <;> rcases k with ⟨t2, ⟨ys, k1⟩, k2⟩ | ⟨t2, ⟨ys, k1⟩, k2⟩
        · exact ⟨a, b, xs, ys, rfl, .inl ⟨h1, k1, Go.ret g rs1 (relI_zip h2 k2)⟩⟩
        · rw [t1, t2] at hb; cases hb
        · rw [t1, t2] at hb; cases hb
        · exact ⟨a, b, xs, ys, rfl, .inr ⟨h1, k1, Go.ret g rs1 (relI_zipT h2 k2)⟩⟩
      · exact g.elim
    · exact g.elim
  · exact g.elim

/-! ### for, while -/
def forS (turn : D → C) : List D → C
  | [] => fun ρ S => .nx ρ S
  | d :: ds => fun ρ S => match turn d ρ S with
    | .nx ρ' S' => forS turn ds ρ' S'
    | .ct ρ' S' => forS turn ds ρ' S'
    | .bk ρ' S' => .nx ρ' S'
    | .rt d S' => .rt d S'
    | .ex x ρ' S' => .ex x ρ' S'
    | .bad => .bad
def forI (turn : D → C) (src : Src) : Nat → Nat → C
  | 0, _ => fun _ _ => .bad
  | k + 1, i => fun ρ S => match look src S with
    | none => .bad
    | some ds => (match ds[i]? with
      | none => .nx ρ S
      | some d => (match turn d ρ S with
        | .nx ρ' S' => forI turn src k (i + 1) ρ' S'
        | .ct ρ' S' => forI turn src k (i + 1) ρ' S'
        | .bk ρ' S' => .nx ρ' S'
        | .rt d S' => .rt d S'
        | .ex x ρ' S' => .ex x ρ' S'
        | .bad => .bad))
theorem forS_I {turn : D → C} {ds : List D} : ∀ (k i : Nat), ds.length < k + i → i ≤ ds.length → ∀ ρ S, forI turn (.st ds) k i ρ S = forS turn (ds.drop i) ρ S
  | 0, i, h, hi, ρ, S => by omega
  | k + 1, i, h, hi, ρ, S => by
    unfold forI
    show (match ds[i]? with | none => _ | some d => _) = _
    cases e : ds[i]? with
    | none =>
      have := List.getElem?_eq_none_iff.mp e
      rw [List.drop_of_length_le this]
      rfl
    | some d =>
      obtain ⟨hl, hd⟩ := List.getElem?_eq_some_iff.mp e
      rw [List.drop_eq_getElem_cons hl, hd]
      have ih := forS_I (turn := turn) (ds := ds) k (i + 1) (by omega) hl
      show (match turn d ρ S with | .nx ρ' S' => _ | .ct ρ' S' => _ | .bk ρ' S' => _ | .rt d S' => _ | .ex x ρ' S' => _ | .bad => _) = forS turn (d :: ds.drop (i + 1)) ρ S
      unfold forS
      cases turn d ρ S with
      | nx ρ' S' => exact ih ρ' S'
      | ct ρ' S' => exact ih ρ' S'
      | bk ρ' S' => rfl
      | rt d S' => rfl
      | ex x ρ' S' => rfl
      | bad => rfl
def turnS (g : Tg) (body : C) : D → C := fun d ρ S => match g d ρ S with
  | some ρ' => body ρ' S
  | none => .bad
def sFor (mi : EI) (g : Tg) (body : C) : C := fun ρ S => (mi ρ S).toS ρ fun src S => match src with
  | .st ds => forS (turnS g body) ds ρ S
  | .lv f => (match f S with
    | some ds => forI (turnS g body) (.lv f) (ds.length + 1) 0 ρ S
    | none => .bad)
theorem sFor_I {g : Tg} {body : C} {src : Src} {ρ : Env} {S : Sto} : ∃ k, (match src with
  | .st ds => forS (turnS g body) ds ρ S
  | .lv f => (match f S with
    | some ds => forI (turnS g body) (.lv f) (ds.length + 1) 0 ρ S
    | none => .bad)) = forI (turnS g body) src k 0 ρ S := by
  cases src with
  | st ds => exact ⟨ds.length + 1, by rw [forS_I _ 0 (by omega) (Nat.zero_le _)]; rfl⟩
  | lv f =>
    cases e : f S with
    | none => exact ⟨0, by show (match f S with | some ds => _ | none => _) = _; rw [e]; rfl⟩
    | some ds => exact ⟨ds.length + 1, by show (match f S with | some ds => _ | none => _) = _; rw [e]⟩
theorem cs_for {iter : Expr} {body : List Stmt} {mi : EI} {g : Tg} {sl : List Nat} {mb : C} (hp : PassesOwn (model X.prog X.w) X.A X.env X.xe) (hc : X.calm = true) (hi : CI X tg iter mi) (hg : CG X tg sl g) (hb : CSs X body mb)
    (hs : ∀ x, foldedSetIterable iter X.env x = pure x := by intro _; rfl) : CS X (.For tg iter body [] pos) (sFor mi g mb) := fun W tk => PS.imp (ps_for hp hc (hi W tk) hg (hb W tk) hs) fun D σ H ⟨G, ρ, S, rs, re, h⟩ => by
  refine ⟨G, ρ, S, rs, re, Go.mono (GoS.bind (rel := relI tg (wd X)) re h) fun J H1 ⟨G1, src, S1, s1, rs1, re1, ri, g1⟩ => ?_⟩
  obtain ⟨k, ek⟩ := sFor_I (g := g) (body := mb) (src := src) (ρ := ρ) (S := S1)
  rw [ek] at g1
  refine ⟨fun i m σ' H' => ∃ G' ρ' S', Step G1 H1 G' H' ∧ RelS (wd X) G' S' H' ∧ RelE (wd X) G' ρ' σ' H' ∧ GoS (wd X) W G' H' (forI (turnS g mb) src m i ρ' S') D, ⟨k, G1, ρ, S1, Step.refl, rs1, re1, g1⟩, ?_⟩
  intro i m σ2 H2 ⟨G2, ρ2, S2, s2, rs2, re2, g2⟩
  cases m with
  | zero => exact g2.elim
  | succ m =>
    unfold forI at g2
    cases el : look src S2 with
    | none => rw [el] at g2; exact g2.elim
    | some ds =>
      rw [el] at g2
      dsimp only at g2
      obtain ⟨r1, r2⟩ := ri G2 H2 S2 ds s2 rs2 el i
      cases ed : ds[i]? with
      | none => rw [ed] at g2; exact .inl ⟨r2 ed, GoS.nx_ g2 rs2 re2⟩
      | some d =>
        rw [ed] at g2
        dsimp only at g2
        obtain ⟨go, yl⟩ := r1 d ed
        refine .inr ⟨go, fun σ' H' => ∃ m', m' < m + 1 ∧ ∃ G' ρ' S', Step G1 H1 G' H' ∧ RelS (wd X) G' S' H' ∧ RelE (wd X) G' ρ' σ' H' ∧ GoS (wd X) W G' H' (forI (turnS g mb) src m' (i + 1) ρ' S') D, fun σ' H' h => h, fun x H3 hy => ?_⟩
        obtain ⟨G3, s3, rs3, dv⟩ := yl x H3 hy
        refine ⟨G3, ρ2, S2, d, rs3, re2.mono s3, dv, ?_⟩
        have g3 := GoS.step s3 g2
        unfold turnS at g3
        cases eg : g d ρ2 S2 with
        | none => rw [eg] at g3; exact g3.elim
        | some ρ3 =>
          rw [eg] at g3
          dsimp only at g3
          intro σ4 re4 _
          refine ⟨G3, ρ3, S2, rs3, re4, ?_⟩
          cases eb : mb ρ3 S2 with
          | nx ρ' S' => rw [eb] at g3; exact fun G' σ' H' s r e => ⟨m, Nat.lt_succ_self m, G', ρ', S', s2.trans (s3.trans s), r, e, GoS.step s g3⟩
          | ct ρ' S' => rw [eb] at g3; exact fun G' σ' H' s r e => ⟨m, Nat.lt_succ_self m, G', ρ', S', s2.trans (s3.trans s), r, e, GoS.step s g3⟩
          | bk ρ' S' => rw [eb] at g3; exact g3
          | rt d S' => rw [eb] at g3; exact g3
          | ex x ρ' S' => rw [eb] at g3; exact g3
          | bad => rw [eb] at g3; exact g3
def whileS (t : T) (body : C) : Nat → C
  | 0 => fun _ _ => .bad
  | k + 1 => fun ρ S => (t ρ S).toS ρ fun b S1 => if b = true then (match body ρ S1 with
    | .nx ρ' S' => whileS t body k ρ' S'
    | .ct ρ' S' => whileS t body k ρ' S'
    | .bk ρ' S' => .nx ρ' S'
    | .rt d S' => .rt d S'
    | .ex x ρ' S' => .ex x ρ' S'
    | .bad => .bad) else .nx ρ S1
theorem cs_while (k : Nat) {e : Expr} {body : List Stmt} {t : T} {mb : C} (hp : PassesOwn (model X.prog X.w) X.A X.env X.xe) (hc : CT X e t) (hb : CSs X body mb) : CS X (.While e body [] pos) (whileS t mb k) := fun W tk => PS.imp (ps_while hp (hc W tk) (hb W tk)) fun D σ H ⟨G, ρ, S, rs, re, h⟩ => by
  refine ⟨fun m σ' H' => ∃ G' ρ' S', RelS (wd X) G' S' H' ∧ RelE (wd X) G' ρ' σ' H' ∧ GoS (wd X) W G' H' (whileS t mb m ρ' S') D, ⟨k, G, ρ, S, rs, re, h⟩, ?_⟩
  intro m σ1 H1 ⟨G1, ρ1, S1, rs1, re1, g1⟩
  cases m with
  | zero => exact g1.elim
  | succ m =>
    unfold whileS at g1
    obtain ⟨G0, ρ0, S0, a, b, c⟩ := tTv.toS rs1 re1 g1
    refine ⟨G0, ρ0, S0, a, b, Go.mono c fun v H2 ⟨G2, S2, s2, rs2, re2, g2⟩ => ?_⟩
    by_cases ev : v = true
    · rw [if_pos ev] at g2 ⊢
      refine ⟨fun σ' H' => ∃ m', m' < m + 1 ∧ ∃ G' ρ' S', RelS (wd X) G' S' H' ∧ RelE (wd X) G' ρ' σ' H' ∧ GoS (wd X) W G' H' (whileS t mb m' ρ' S') D, fun σ' H' h => h, G2, ρ1, S2, rs2, re2, ?_⟩
      cases eb : mb ρ1 S2 with
      | nx ρ' S' => rw [eb] at g2; exact fun G' σ' H' s r e => ⟨m, Nat.lt_succ_self m, G', ρ', S', r, e, GoS.step s g2⟩
      | ct ρ' S' => rw [eb] at g2; exact fun G' σ' H' s r e => ⟨m, Nat.lt_succ_self m, G', ρ', S', r, e, GoS.step s g2⟩
      | bk ρ' S' => rw [eb] at g2; exact g2
      | rt d S' => rw [eb] at g2; exact g2
      | ex x ρ' S' => rw [eb] at g2; exact g2
      | bad => rw [eb] at g2; exact g2
    · rw [if_neg ev] at g2 ⊢
      exact GoS.nx_ g2 rs2 re2
end
end Z

/-! Z12: op=, defs, comprehensions. -/
namespace Z
open PySem PySem.Spec PyProof PyProof.Rows L2
section
variable {X : Cx} {pos : Pos}
/-! ### op= -/
def oAddI : D2 := fun a b S => match a, b with
  | .int i, .int j => .ok (.int (i + j)) S
  | .str x, .str y => if fits (x.length + y.length) = true then .ok (.str (x ++ y)) S else .bad
  | _, _ => .bad
def oSubI : D2 := fun a b S => match a, b with
  | .int i, .int j => .ok (.int (i - j)) S
  | _, _ => .bad
theorem od_iadd : OpD X (inplaceOp .Add) oAddI := fun W σ => OpR.imp (OpR.or iop_add iop_add_str) fun x y H Q ⟨G, S, a, b, rs, qa, qb, g⟩ => by
  unfold oAddI at g
  split at g
  · rename_i i j
    exact .inl ⟨i, j, qa, qb, Go.ret g rs rfl⟩
  · rename_i u v
    split at g
    · rename_i hf
      refine .inr ⟨_, _, qa, qb, by simpa [Str.length] using fits_le hf, ?_⟩
      have e : (⟨u.toArray⟩ : Str) ++ ⟨v.toArray⟩ = ⟨(u ++ v).toArray⟩ := by
        show (⟨_⟩ : Str) = _
        simp
      rw [e]
      exact Go.ret g rs rfl
    · exact g.elim
  · exact g.elim
theorem od_isub : OpD X (inplaceOp .Sub) oSubI := fun W σ => OpR.imp iop_sub fun x y H Q ⟨G, S, a, b, rs, qa, qb, g⟩ => by
  unfold oSubI at g
  split at g
  · rename_i i j
    exact ⟨i, j, qa, qb, Go.ret g rs rfl⟩
  · exact g.elim
/-- of any frame -/
def rDx (U : Wd) (g : D2) (W : WX) : R2 := fun x y H Q => ∃ σ, rD U g W σ x y H Q
theorem cs_aug (i : Nat) {x : Str} {op : Operator} {g : D2} {e : Expr} {m : E} {pos' : Pos} (hN : X.N.Nodup) (ho : OpD X (inplaceOp op) g) (he : CE X e m) (hi : X.N[i]? = some x := by rfl) (hx : Loc X.env.scope x := by first | exact .inl rfl | exact .inr rfl) (hf : X.fn x = true ∨ X.env.scope.names.lookup x = some .local := by first | exact .inr rfl | exact .inl rfl) :
    CS X (.AugAssign (.Name x pos') op e pos) (sAug i g m) := fun W tk => PS.imp (ps_aug (ti := rDx (wd X) g W) hN hi hx (he W tk) (fun pins s σ H x y v u Q I r1 r2 ⟨σ', h⟩ => ho W σ' pins s σ H x y v u Q I r1 r2 h) hf) fun D σ H ⟨G, ρ, S, rs, re, h⟩ => by
  unfold sAug at h
  split at h
  · rename_i a e
    obtain ⟨v, e1, qv⟩ := re.2 i a e
    refine ⟨v, e1, ?_⟩
    obtain ⟨G0, ρ0, S0, a, b, c⟩ := tEv.toS rs re h
    refine ⟨G0, ρ0, S0, a, b, Go.mono c fun y H1 ⟨G1, d, S1, s, rs1, re1, dv, g1⟩ => ?_⟩
    exact ⟨σ, G1, S1, _, d, rs1, qv.mono s, dv, Go.mono (GoS.bind re1 g1) fun z H2 ⟨G2, d2, S2, s2, rs2, re2, dz, g2⟩ => GoS.nx_ g2 rs2 (re2.set i dz)⟩
  · exact h.elim
/-- o[i], by values, as it is asked for op= -/
def oGet : D2 := fun a i S => match rd S a with
  | .lst ds => (match i with
    | .int k => if 0 ≤ k ∧ k < 16777216 then (match ds[k.toNat]? with | some d => .ok d S | none => .bad) else .bad
    | _ => .bad)
  | .dct ks zs => (match keyOf i with
    | some _ => (match dfind ks zs i with | some d => .ok d S | none => .bad)
    | none => .bad)
  | _ => .bad
theorem get_any {k0 : Nat} (hr : Room k0 X.A) {W : WX} : PGet X (rDx (wd X) oGet W) := fun pins s σ H o i ov iv Q I ro ri ⟨σ', G, S, a, j, rs, qa, qj, g⟩ => by
  unfold oGet at g
  split at g
  · rename_i ds e
    split at g
    · rename_i k
      split at g
      · rename_i hk
        split at g
        · rename_i d hd
          obtain ⟨p, vs, rfl, t, q⟩ := rd_lst rs e qa
          obtain ⟨w, hw, dw⟩ := q.at hd
          have qj : i = _ := qj
          subst qj
          cases ro
          obtain ⟨t', rfl⟩ := ri
          obtain ⟨its, r, pl, hz⟩ := I.list t
          obtain ⟨u, hu, ru⟩ := r.get hw
          have hlt : k.toNat < its.length := (List.getElem?_eq_some_iff.mp hu).1
          exact wpAny_getItem_list pl.isList hk.1 (by omega) (by rw [List.getElem?_toArray]; exact hu) ⟨w, H, I, ru, Go.ret g rs dw⟩
        · exact g.elim
      · exact g.elim
    · exact g.elim
  · rename_i ks zs e
    split at g
    · rename_i kk hk
      split at g
      · rename_i d hd
        obtain ⟨p, kvs, rfl, hH, h1, h2⟩ := rd_dct rs e qa
        obtain ⟨w, dg, dw⟩ := (dct_get hH h1 h2 hk qj).1 d hd
        cases ro
        exact d_getItem (Room.u1 hr) I dg ri fun w' s3 I3 rw' => ⟨w, H, I3, rw', Go.ret g rs dw⟩
      · exact g.elim
    · exact g.elim
  · exact g.elim
def sAugS (mo mi me : E) (gp : D2) : C := fun ρ S => (mo ρ S).toS ρ fun a S => (mi ρ S).toS ρ fun j S => (oGet a j S).toS ρ fun x S => (me ρ S).toS ρ fun y S => (gp x y S).toS ρ fun z S => match oSet a j z S with
  | some S' => .nx ρ S'
  | none => .bad
theorem cs_augS {k0 : Nat} {o i e : Expr} {mo mi me : E} {op : Operator} {gp : D2} {tpos : Pos} (hr : Room k0 X.A) (ho : CE X o mo) (hi : CE X i mi) (hop : OpD X (inplaceOp op) gp) (he : CE X e me)
    (ha : ∀ ov iv new, augStore i ov iv new = (do holding [new, ov, iv] (setItem ov iv new); release [new, ov, iv] []; pure .next) := by intros; rfl) : CS X (.AugAssign (.Subscript o i tpos) op e pos) (sAugS mo mi me gp) := fun W tk =>
  PS.imp (ps_augS (tip := rDx (wd X) gp W) (ho W tk) (hi W tk) (get_any (W := W) hr) (he W tk) (fun pins s σ H x y v u Q I r1 r2 ⟨σ', h⟩ => hop W σ' pins s σ H x y v u Q I r1 r2 h) (set_any hr) ha) fun D σ H ⟨G, ρ, S, rs, re, h⟩ => by
    obtain ⟨G0, ρ0, S0, a, b, c⟩ := tEv.toS rs re h
    refine ⟨G0, ρ0, S0, a, b, Go.mono c fun o H1 ⟨G1, d1, S1, s1, rs1, re1, dv1, g1⟩ => ?_⟩
    obtain ⟨G0, ρ0, S0, a, b, c⟩ := tEv.toS rs1 re1 g1
    refine ⟨G0, ρ0, S0, a, b, Go.mono c fun i H2 ⟨G2, d2, S2, s2, rs2, re2, dv2, g2⟩ => ?_⟩
    refine ⟨σ, G2, S2, d1, d2, rs2, dv1.mono s2, dv2, Go.mono (GoS.bind re2 g2) fun x H3 ⟨G3, d3, S3, s3, rs3, re3, dv3, g3⟩ => ?_⟩
    obtain ⟨G0, ρ0, S0, a, b, c⟩ := tEv.toS rs3 re3 g3
    refine ⟨G0, ρ0, S0, a, b, Go.mono c fun y H4 ⟨G4, d4, S4, s4, rs4, re4, dv4, g4⟩ => ?_⟩
    refine ⟨σ, G4, S4, d3, d4, rs4, dv3.mono s4, dv4, Go.mono (GoS.bind re4 g4) fun z H5 ⟨G5, d5, S5, s5, rs5, re5, dv5, g5⟩ => ?_⟩
    refine ⟨G5, S5, d1, d2, d5, rs5, dv1.mono (s2.trans (s3.trans (s4.trans s5))), dv2.mono (s3.trans (s4.trans s5)), dv5, ?_⟩
    cases e1 : oSet d1 d2 d5 S5 with
    | none => rw [e1] at g5; exact g5.elim
    | some S' => rw [e1] at g5; exact fun G' H' s' r' => GoS.nx_ (GoS.step s' g5) r' (re5.mono s')
end

/-! ### defs -/
/-- what every context within a law is -/
structure Std (X : Cx) (k : Nat) : Prop where
  hr : Room k X.A
  hc : X.calm = true
  hN : X.N.Nodup
  hg : X.A.guards = some []
/-- .. of statements -/
structure StdS (X : Cx) (k : Nat) : Prop extends Std X k where
  hp : PassesOwn (model X.prog X.w) X.A X.env X.xe
/-- the frame's slots at the entry -/
def env0 (n N : Nat) (ds : List D) : Env := ds.map some ++ List.replicate (N - n) none
def fnS (n N : Nat) (body : C) : Fn := fun ds S => match body (env0 n N ds) S with
  | .nx _ S' => .ok .non S'
  | .rt d S' => .ok d S'
  | .ex x _ S' => .ex x S'
  | _ => .bad
theorem relE_start {U : Wd} {G : Gh} {H : Hp} {ds : List D} {vs : List V} {N : List Str} {n : Nat} (q : DVs U G H ds vs) (hn : vs.length = n) : RelE U G (env0 n N.length ds) (L2.start N vs) H := by
  subst hn
  unfold env0 L2.start
  have hl := q.length
  refine ⟨by simp [hl], fun i d h => ?_⟩
  by_cases hi : i < ds.length
  · rw [List.getElem?_append_left (by simpa using hi), List.getElem?_map] at h
    cases e : ds[i]? with
    | none => rw [e] at h; cases h
    | some d' =>
      rw [e] at h
      cases h
      obtain ⟨v, hv, dv⟩ := q.at e
      exact ⟨v, by rw [List.getElem?_append_left (by simp; omega), List.getElem?_map, hv]; rfl, dv⟩
  · rw [List.getElem?_append_right (by simp; omega), List.getElem?_replicate] at h
    split at h <;> cases h
section
variable {P : Program} {w : World} {K : PySem.W.Frag} {mg : Str → Option Value} {base : Heap}
/-- a def's own context -/
abbrev cxF (P : Program) (w : World) (K : PySem.W.Frag) (mg : Str → Option Value) (base : Heap) (N : List Str) (qual : Str) (scope : Scope) (f : Addr) (cd : Value) (A : Around) (outer : List PySem.Env) (s : Shared) (H : Hp) (E : XK) : Cx := cxOf (L2.CX P w) P w K mg base N qual scope f cd A outer s H E
theorem fs_of {x qual : Str} {params : Arguments} {bd : List Stmt} {scope : Scope} {f : Addr} {fd : FuncData} {N ps : List Str} {k : Nat} {body : C} (F : FunD K x qual params bd scope [] [] f fd) (Sc : FnScope N ps scope)
    (hb : ∀ (cdv : Value) (A : Around) (outer : List PySem.Env) (s : Shared) (H : Hp) (E : XK), StdS (cxF P w K mg base N qual scope f cdv A outer s H E) k → CSs (cxF P w K mg base N qual scope f cdv A outer s H E) bd body) :
    FS P w K mg base (k + 1) f fd ps (fnS ps.length N.length body) := by
  refine fnG_D F Sc (fun vs H Q E h => h.1) fun cdv A outer s H vs Q E hr hgd ⟨hl, G, S, ds, rs, q, g⟩ => ?_
  have st : StdS (cxF P w K mg base N qual scope f cdv A outer s H E) k := ⟨⟨hr, rfl, Sc.nd, hgd⟩, passes_of (X := cxF P w K mg base N qual scope f cdv A outer s H E) rfl⟩
  refine ⟨_, hb cdv A outer s H E st (fun cls d _ H' => E cls d H') (takes_of (X := cxF P w K mg base N qual scope f cdv A outer s H E) rfl rfl rfl rfl), G, env0 ps.length N.length ds, S, rs, relE_start q hl, ?_⟩
  unfold fnS at g
  cases e : body (env0 ps.length N.length ds) S with
  | nx ρ' S' => rw [e] at g; exact fun G' σ' H' s r re => g G' .non H' s r rfl
  | rt d S' => rw [e] at g; exact g
  | ex x ρ' S' => rw [e] at g; exact fun G' σ' H' cls dd s r re xv => g G' H' cls dd s r xv
  | bk ρ' S' => rw [e] at g; exact g.elim
  | ct ρ' S' => rw [e] at g; exact g.elim
  | bad => rw [e] at g; exact g.elim
end
end Z

/-! Z13: list comprehensions of one source. -/
namespace Z
open PySem PySem.Spec PyProof PyProof.Rows L2
def wipeE (ρ : Env) : List Nat → Env
  | [] => ρ
  | v :: vs => (wipeE ρ vs).set v none
theorem RelE.unset {U : Wd} {G : Gh} {ρ : Env} {σ : L2.St} {H : Hp} (re : RelE U G ρ σ H) (i : Nat) : RelE U G (ρ.set i none) (σ.set i none) H := by
  refine ⟨by rw [List.length_set, List.length_set]; exact re.1, fun j e h => ?_⟩
  rw [List.getElem?_set] at h ⊢
  by_cases hj : i = j
  · rw [if_pos hj] at h ⊢
    split at h <;> cases h
  · rw [if_neg hj] at h ⊢
    exact re.2 j e h
theorem RelE.wipe {U : Wd} {G : Gh} {ρ : Env} {σ : L2.St} {H : Hp} (re : RelE U G ρ σ H) : ∀ vs, RelE U G (wipeE ρ vs) (L2.wipe σ vs) H
  | [] => re
  | v :: vs => (RelE.wipe re vs).unset v
theorem wipe_get {σ : L2.St} {i : Nat} : ∀ {vs : List Nat}, (i ∉ vs → (L2.wipe σ vs)[i]? = σ[i]?) ∧ (i ∈ vs → i < σ.length → (L2.wipe σ vs)[i]? = some none)
  | [] => ⟨fun _ => rfl, fun h => by simp at h⟩
  | v :: vs => by
    obtain ⟨h1, h2⟩ := wipe_get (σ := σ) (i := i) (vs := vs)
    refine ⟨fun h => ?_, fun h hl => ?_⟩
    · show ((L2.wipe σ vs).set v none)[i]? = _
      rw [List.getElem?_set_ne (fun e => h (by simp [e]))]
      exact h1 fun z => h (List.mem_cons_of_mem _ z)
    · show ((L2.wipe σ vs).set v none)[i]? = _
      by_cases e : v = i
      · subst e; rw [List.getElem?_set_self (by rw [wipe_length]; exact hl)]
      · rw [List.getElem?_set_ne e]
        exact h2 ((List.mem_cons.mp h).resolve_left fun z => e z.symm) hl
theorem wipe_diff {σ σ' : L2.St} {sl vs : List Nat} (d : Diff sl σ σ') (h : ∀ i ∈ sl, i ∈ vs) : L2.wipe σ' vs = L2.wipe σ vs := by
  refine List.ext_getElem? fun i => ?_
  by_cases hi : i ∈ vs
  · by_cases hl : i < σ.length
    · rw [wipe_get.2 hi hl, wipe_get.2 hi (by rw [d.1]; exact hl)]
    · rw [List.getElem?_eq_none (by rw [wipe_length, d.1]; omega), List.getElem?_eq_none (by rw [wipe_length]; omega)]
  · rw [wipe_get.1 hi, wipe_get.1 hi]
    exact d.2 i fun z => hi (h i z)
theorem wipe_wipe {σ : L2.St} {vs : List Nat} : L2.wipe (L2.wipe σ vs) vs = L2.wipe σ vs := by
  refine List.ext_getElem? fun i => ?_
  by_cases hi : i ∈ vs
  · by_cases hl : i < σ.length
    · rw [wipe_get.2 hi (by rw [wipe_length]; exact hl), wipe_get.2 hi hl]
    · rw [List.getElem?_eq_none (by rw [wipe_length, wipe_length]; omega), List.getElem?_eq_none (by rw [wipe_length]; omega)]
  · rw [wipe_get.1 hi]

/-! ### a new list in the making is hidden -/
def Gh.hide (G : Gh) (D : Addr) : Gh := ⟨G.n, G.ι, fun a => G.hid a ∨ a = D⟩
theorem NS.hide {G : Gh} {a D : Addr} (h : NS G a) (ne : a ≠ D) : NS (G.hide D) a := ⟨h.1, fun z => z.elim h.2 ne⟩
section
variable {U : Wd} {G Gi : Gh} {S : Sto} {H H1 : Hp} {D : Addr} {o : HO}
theorem hide_step (rs : RelS U G S H) (hD : H D = none) : Step G H (G.hide D) (upd H D o) where
  keep := fun a u h _ => by rw [upd_ne (ne_of_none h hD)]; exact h
  hid := fun _ h => .inl h
  hnew := fun a h => h.elim .inl fun e => .inr (by rw [e]; exact hD)
  le := Nat.le_refl _
  ι := fun _ _ => rfl
  new := fun i h1 h2 => absurd h2 (Nat.not_lt.mpr h1)
  there := fun i hi ⟨u, h⟩ => by rw [upd_ne (ne_of_none h hD)]; exact ⟨u, h⟩
theorem hide_rel (rs : RelS U G S H) (hD : H D = none) (ho : chg o = true) (hx : isX o = true → ∃ xs, o = nesHO U D xs := by intro h; cases h) : RelS U (G.hide D) S (upd H D o) where
  wf := rs.wf
  n := rs.n
  at_ := fun i u e => by
    have z := rs.at_ i u e
    obtain ⟨w, hw, _⟩ := z.some
    exact z.mono (hide_step rs hD) (upd_ne (ne_of_none hw hD))
  inj := rs.inj
  hid := fun a z => by
    by_cases e : a = D
    · subst e; exact ⟨o, upd_same, ho, hx⟩
    · obtain ⟨u, h, m⟩ := rs.hid a (z.resolve_right e)
      exact ⟨u, by rw [upd_ne e]; exact h, m⟩
  dis := fun i hi z => by
    rcases z with z | z
    · exact rs.dis i hi z
    · obtain ⟨u, h, _⟩ := rs.some hi
      rw [show G.ι i = D from z, hD] at h; cases h
theorem hid_keep (hD : G.hid D) : Keep G H G (upd H D o) := ⟨fun a u h n => ⟨by rw [upd_ne (fun e => by subst e; exact n.2 hD)]; exact h, n⟩, Nat.le_refl _, fun _ _ => rfl⟩
theorem hid_rel (rs : RelS U G S H) (hD : G.hid D) (ho : chg o = true) (hx : isX o = true → ∃ xs, o = nesHO U D xs := by intro h; cases h) : RelS U G S (upd H D o) where
  wf := rs.wf
  n := rs.n
  at_ := fun i u e => by
    have z := rs.at_ i u e
    have hi : i < G.n := by rw [rs.n]; exact Sto.get_lt e
    exact z.kp (hid_keep hD) (upd_ne fun e => rs.dis i hi (by rw [e]; exact hD))
  inj := rs.inj
  hid := fun a z => by
    by_cases e : a = D
    · subst e; exact ⟨o, upd_same, ho, hx⟩
    · obtain ⟨u, h, m⟩ := rs.hid a z
      exact ⟨u, by rw [upd_ne e]; exact h, m⟩
  dis := rs.dis
theorem step_free {G' : Gh} {H' : Hp} (s : Step G H1 G' H') (hD : H1 D = none) : Step G H1 G' (upd H' D o) where
  keep := fun a u h z => by rw [upd_ne (ne_of_none h hD)]; exact s.keep a u h z
  hid := s.hid
  hnew := s.hnew
  le := s.le
  ι := s.ι
  new := s.new
  there := fun i hi ⟨u, h⟩ => by rw [upd_ne (ne_of_none h hD)]; exact s.there i hi ⟨u, h⟩
def Gh.back (Gi G : Gh) : Gh := ⟨Gi.n, Gi.ι, G.hid⟩
theorem back_keep {Si : Sto} {Hi : Hp} (s : Step G H1 Gi Hi) : Keep Gi Hi (Gi.back G) Hi := ⟨fun a u h n => ⟨h, n.1, fun z => n.2 (s.hid a z)⟩, Nat.le_refl _, fun _ _ => rfl⟩
theorem back_step {Hi : Hp} (s : Step G H1 Gi Hi) : Step G H1 (Gi.back G) Hi := ⟨s.keep, fun _ h => h, fun _ h => .inl h, s.le, s.ι, s.new, s.there⟩
theorem back_rel {Si : Sto} {Hi : Hp} (s : Step G H1 Gi Hi) (rs : RelS U Gi Si Hi) : RelS U (Gi.back G) Si Hi where
  wf := rs.wf
  n := rs.n
  at_ := fun i u e => (rs.at_ i u e).kp (back_keep (Si := Si) s) rfl
  inj := rs.inj
  hid := fun a z => rs.hid a (s.hid a z)
  dis := fun i hi z => rs.dis i hi (s.hid _ z)
theorem back_lst {Si : Sto} {Hi : Hp} {ds : List Z.D} {vs : List V} (rs1 : RelS U G S H1) (hD : H1 D = none) (s : Step G H1 Gi Hi) (rs : RelS U Gi Si Hi) (hh : Gi.hid D) (h : Hi D = some (.lst vs)) (q : DVs U Gi Hi ds vs) : DV U (Gi.back G) Hi (.lst ds) (.ref D) := by
  refine ⟨D, vs, rfl, ⟨.inl h, fun i hi e => rs.dis i hi (by rw [show Gi.ι i = D from e]; exact hh), fun z => ?_⟩, q.kp (back_keep (Si := Si) s)⟩
  obtain ⟨u, w, _⟩ := rs1.hid D z
  rw [hD] at w; cases w
end

/-! ### [e for target in source if ..] -/
def lcT (g : Tg) (t : T) (e : E) (ρ : Env) (d : D) (S : Sto) : R (Option D) := match g d ρ S with
  | none => .bad
  | some ρ' => (t ρ' S).bind fun b S => if b = true then (e ρ' S).bind fun y S => .ok (some y) S else .ok none S
def lcS (turn : D → Sto → R (Option D)) : List D → Sto → R (List D)
  | [], S => .ok [] S
  | d :: ds, S => match turn d S with
    | .ok (some y) S' => (match lcS turn ds S' with
      | .ok ys S2 => .ok (y :: ys) S2
      | _ => .bad)
    | .ok none S' => lcS turn ds S'
    | _ => .bad
def lcI (turn : D → Sto → R (Option D)) (src : Src) : Nat → Nat → Sto → R (List D)
  | 0, _, _ => .bad
  | k + 1, i, S => match look src S with
    | none => .bad
    | some ds => (match ds[i]? with
      | none => .ok [] S
      | some d => (match turn d S with
        | .ok (some y) S' => (match lcI turn src k (i + 1) S' with
          | .ok ys S2 => .ok (y :: ys) S2
          | _ => .bad)
        | .ok none S' => lcI turn src k (i + 1) S'
        | _ => .bad))
theorem lcS_I {turn : D → Sto → R (Option D)} {ds : List D} : ∀ (k i : Nat), ds.length < k + i → i ≤ ds.length → ∀ S, lcI turn (.st ds) k i S = lcS turn (ds.drop i) S
  | 0, i, h, hi, S => by omega
  | k + 1, i, h, hi, S => by
    unfold lcI
    show (match ds[i]? with | none => _ | some d => _) = _
    cases e : ds[i]? with
    | none =>
      have := List.getElem?_eq_none_iff.mp e
      rw [List.drop_of_length_le this]
      rfl
    | some d =>
      obtain ⟨hl, hd⟩ := List.getElem?_eq_some_iff.mp e
      rw [List.drop_eq_getElem_cons hl, hd]
      have ih := lcS_I (turn := turn) (ds := ds) k (i + 1) (by omega) hl
      show _ = lcS turn (d :: ds.drop (i + 1)) S
      show (match turn d S with
        | .ok (some y) S' => (match lcI turn (.st ds) k (i + 1) S' with
          | .ok ys S2 => (.ok (y :: ys) S2 : R (List D))
          | _ => .bad)
        | .ok none S' => lcI turn (.st ds) k (i + 1) S'
        | _ => .bad) = _
      unfold lcS
      cases turn d S with
      | ok o S' =>
        cases o with
        | none => exact ih S'
        | some y => dsimp only; rw [ih S']
      | ex x S' => rfl
      | bad => rfl
def lcRun (turn : D → Sto → R (Option D)) (src : Src) (S : Sto) : R (List D) := match src with
  | .st ds => lcS turn ds S
  | .lv f => (match f S with
    | some ds => lcI turn (.lv f) (ds.length + 1) 0 S
    | none => .bad)
theorem lcRun_I {turn : D → Sto → R (Option D)} {src : Src} {S : Sto} : ∃ k, lcRun turn src S = lcI turn src k 0 S := by
  cases src with
  | st ds => exact ⟨ds.length + 1, by rw [lcS_I _ 0 (by omega) (Nat.zero_le _)]; rfl⟩
  | lv f =>
    cases e : f S with
    | none => exact ⟨0, by show (match f S with | some ds => _ | none => _) = _; rw [e]; rfl⟩
    | some ds => exact ⟨ds.length + 1, by show (match f S with | some ds => _ | none => _) = _; rw [e]⟩
def eLc (vs : List Nat) (mi : EI) (g : Tg) (t : T) (e : E) : E := fun ρ S => (mi ρ S).bind fun src S => match lcRun (lcT g t e (wipeE ρ vs)) src S with
  | .ok ys S' => if fits ys.length = true then .ok (.lst ys) S' else .bad
  | _ => .bad
abbrev W0 : WX := fun _ _ _ _ => False
def CTs (X : Cx) (ifs : List Expr) (t : T) : Prop := ∀ W, Takes X W → PTs X ifs (tTv (wd X) t W)
def tYs : T := fun _ S => .ok true S
theorem cts_nil {X : Cx} : CTs X [] tYs := fun W tk => ⟨fun pins s σ H Q I ⟨G, ρ, S, rs, re, h⟩ => pts_nil.run pins s σ H Q I (Go.ret h rs rfl)⟩
theorem cts_one {X : Cx} {c : Expr} {t : T} (h : CT X c t) : CTs X [c] t := fun W tk => pts_one (h W tk)
/-- a context of a comprehension's block -/
abbrev cxB (X : Cx) (scope : Scope) (s : Shared) (H : Hp) (C : Addr) (cl : List (Str × Addr)) (fp : List Addr) : Cx := X.blk s H scope (compEnvC scope cl C X.env) fp
section
variable {X : Cx} {pos : Pos}
/-- what is left of a comprehension at turn i -/
def Left (U : Wd) (G : Gh) (H1 : Hp) (Q : VK) (r : R (List D)) (done : List D) : Prop := match r with
  | .ok ys S' => fits (done.length + ys.length) = true ∧ ∀ G' v H', Step G H1 G' H' → RelS U G' S' H' → DV U G' H' (.lst (done ++ ys)) v → Q v H'
  | _ => False
theorem lc_reads {tg : Expr} {U : Wd} {vs sl : List Nat} {mi : EI} {g : Tg} {t : T} {e : E} {W : WX} {σ : L2.St} {H : Hp} {Q : VK} (hsl : ∀ i ∈ sl, i ∈ vs) (h : tEv U (eLc vs mi g t e) W σ H Q) : tLc (tIv tg U mi W) (tGv U tg sl g) (tTv U t W0) (tEv U e W0) vs σ H Q := by
  obtain ⟨G, ρ, S, rs, re, h⟩ := h
  refine ⟨G, ρ, S, rs, re, Go.mono (Go.bind (rel := relI tg U) h) fun J H1 ⟨G1, src, S1, s1, rs1, ri, g1⟩ => ?_⟩
  have re1 := re.mono s1
  intro D hD
  have hleft : Left U G1 H1 Q (lcRun (lcT g t e (wipeE ρ vs)) src S1) [] := by
    unfold Left
    cases er : lcRun (lcT g t e (wipeE ρ vs)) src S1 with
    | ok ys S' =>
      rw [er] at g1
      dsimp only at g1
      by_cases hf : fits ys.length = true
      · rw [if_pos hf] at g1
        exact ⟨by simpa using hf, g1⟩
      · rw [if_neg hf] at g1; exact g1.elim
    | ex x S' => rw [er] at g1; exact g1.elim
    | bad => rw [er] at g1; exact g1.elim
  obtain ⟨k, ek⟩ := lcRun_I (turn := lcT g t e (wipeE ρ vs)) (src := src) (S := S1)
  rw [ek] at hleft
  refine ⟨fun i m H' => ∃ Gi Si acc dacc, Step G1 H1 Gi H' ∧ RelS U Gi Si H' ∧ Gi.hid D ∧ H' D = some (.lst acc) ∧ DVs U Gi H' dacc acc ∧ Left U G1 H1 Q (lcI (lcT g t e (wipeE ρ vs)) src m i Si) dacc,
    ⟨k, G1.hide D, S1, [], [], hide_step rs1 hD, hide_rel rs1 hD rfl, .inr rfl, upd_same, rfl, hleft⟩, ?_⟩
  intro i m H2 ⟨G2, S2, acc, dacc, s2, rs2, hh2, hD2, qa, hl⟩
  cases m with
  | zero => exact hl.elim
  | succ m =>
    unfold lcI at hl
    cases el : look src S2 with
    | none => rw [el] at hl; exact hl.elim
    | some ds =>
      rw [el] at hl
      dsimp only at hl
      obtain ⟨r1, r2⟩ := ri G2 H2 S2 ds s2 rs2 el i
      cases ed : ds[i]? with
      | none =>
        rw [ed] at hl
        refine .inl ⟨r2 ed, ?_⟩
        have hl : fits (dacc.length + 0) = true ∧ ∀ G' v H', Step G1 H1 G' H' → RelS U G' S2 H' → DV U G' H' (.lst (dacc ++ [])) v → Q v H' := hl
        rw [List.append_nil] at hl
        exact hl.2 _ _ _ (back_step s2) (back_rel s2 rs2) (back_lst rs1 hD s2 rs2 hh2 hD2 qa)
      | some d =>
        rw [ed] at hl
        dsimp only at hl
        obtain ⟨go, yl⟩ := r1 d ed
        refine .inr ⟨go, fun H' => ∃ m', m' < m + 1 ∧ ∃ Gi Si acc dacc, Step G1 H1 Gi H' ∧ RelS U Gi Si H' ∧ Gi.hid D ∧ H' D = some (.lst acc) ∧ DVs U Gi H' dacc acc ∧ Left U G1 H1 Q (lcI (lcT g t e (wipeE ρ vs)) src m' (i + 1) Si) dacc, fun H' h => h, fun x H3 hy => ?_⟩
        obtain ⟨G3, s3, rs3, dv⟩ := yl x H3 hy
        have s13 := s2.trans s3
        refine ⟨G3, wipeE ρ vs, S2, d, rs3, (re1.mono s13).wipe vs, dv, ?_⟩
        have hh3 := s3.hid D hh2
        have hD3 := s3.keep D _ hD2 (.inr hh2)
        have qa3 := qa.mono s3
        unfold lcT at hl
        cases eg : g d (wipeE ρ vs) S2 with
        | none => rw [eg] at hl; exact hl.elim
        | some ρ3 =>
          rw [eg] at hl
          dsimp only at hl
          intro σ4 re4 df
          refine ⟨(wipe_diff df hsl).trans wipe_wipe, G3, ρ3, S2, rs3, re4, ?_⟩
          cases et : t ρ3 S2 with
          | bad => rw [et] at hl; exact hl.elim
          | ex x S' => rw [et] at hl; exact hl.elim
          | ok b S4 =>
            rw [et] at hl
            intro G4 b' H4 s4 rs4 eb
            have eb : b = b' := eb
            subst eb
            have s14 := s13.trans s4
            have hh4 := s4.hid D hh3
            have hD4 := s4.keep D _ hD3 (.inr hh3)
            have qa4 := qa3.mono s4
            by_cases hb : b = true
            · rw [if_pos hb]
              have hl : Left U G1 H1 Q (match (e ρ3 S4).bind fun y S => (.ok (some y) S : R (Option Z.D)) with
                | .ok (some y) S' => (match lcI (lcT g t e (wipeE ρ vs)) src m (i + 1) S' with
                  | .ok ys S2 => .ok (y :: ys) S2
                  | _ => .bad)
                | .ok none S' => lcI (lcT g t e (wipeE ρ vs)) src m (i + 1) S'
                | _ => .bad) dacc := by
                have hl' := hl
                unfold R.bind at hl'
                dsimp only at hl'
                rw [if_pos hb] at hl'
                exact hl'
              refine ⟨G4, ρ3, S4, rs4, re4.mono s4, ?_⟩
              cases ee : e ρ3 S4 with
              | bad => rw [ee] at hl; exact hl.elim
              | ex x S' => rw [ee] at hl; exact hl.elim
              | ok y S5 =>
                rw [ee] at hl
                intro G5 v H5 s5 rs5 dy
                have s15 := s14.trans s5
                have hh5 := s5.hid D hh4
                have hD5 := s5.keep D _ hD4 (.inr hh4)
                have qa5 := qa4.mono s5
                have hl : Left U G1 H1 Q (match lcI (lcT g t e (wipeE ρ vs)) src m (i + 1) S5 with
                  | .ok ys S2 => .ok (y :: ys) S2
                  | _ => .bad) dacc := hl
                cases er : lcI (lcT g t e (wipeE ρ vs)) src m (i + 1) S5 with
                | bad => rw [er] at hl; exact hl.elim
                | ex x S' => rw [er] at hl; exact hl.elim
                | ok ys S6 =>
                  rw [er] at hl
                  have hl : fits (dacc.length + (y :: ys).length) = true ∧ ∀ G' v H', Step G1 H1 G' H' → RelS U G' S6 H' → DV U G' H' (.lst (dacc ++ y :: ys)) v → Q v H' := hl
                  refine ⟨acc, hD5, ?_, m, Nat.lt_succ_self m, G5, S5, acc ++ [v], dacc ++ [y], step_free s15 hD, hid_rel rs5 hh5 rfl, hh5, upd_same, (qa5.append (show DVs U G5 H5 [y] [v] from ⟨v, [], rfl, dy, rfl⟩)).kp (hid_keep hh5), ?_⟩
                  · have := fits_le hl.1
                    rw [qa5.length]
                    rw [List.length_cons] at this
                    omega
                  · rw [er]
                    refine ⟨?_, ?_⟩
                    · have := hl.1
                      rw [List.length_cons] at this
                      rw [List.length_append, List.length_singleton]
                      rw [show dacc.length + 1 + ys.length = dacc.length + (ys.length + 1) from by omega]
                      exact this
                    · rw [List.append_assoc]; exact hl.2
            · rw [if_neg hb]
              have hl : Left U G1 H1 Q (lcI (lcT g t e (wipeE ρ vs)) src m (i + 1) S4) dacc := by
                have hl' := hl
                unfold R.bind at hl'
                dsimp only at hl'
                rw [if_neg hb] at hl'
                exact hl'
              exact ⟨m, Nat.lt_succ_self m, G4, S4, acc, dacc, s14, rs4, hh4, hD4, qa4, hl⟩
theorem ce_lc {elt tg iter : Expr} {ifs : List Expr} {scope : Scope} (own : List (Str × Nat)) {sl : List Nat} {mi : EI} {g : Tg} {t : T} {e : E} (hc : X.calm = true) (hN : X.N.Nodup) (hi : CI X tg iter mi) (ok : BlkOk X.N X.env.scope scope own) (hsl : ∀ i ∈ sl, i ∈ own.map (·.2))
    (hg : ∀ s H C cl fp, CG (cxB X scope s H C cl fp) tg sl g) (ht : ∀ s H C cl fp, CTs (cxB X scope s H C cl fp) ifs t) (he : ∀ s H C cl fp, CE (cxB X scope s H C cl fp) elt e) (hs : ∀ x, foldedSetIterable iter X.env x = pure x := by intro _; rfl) :
    CE X (.ListComp elt [⟨tg, iter, ifs, 0⟩] scope pos) (eLc (own.map (·.2)) mi g t e) := fun W tk =>
  PE.imp (pe_lc (g := tGv (wd X) tg sl g) (tt := tTv (wd X) t W0) (te := tEv (wd X) e W0) hc hN (hi W tk) ok (fun s H C cl fp => hg s H C cl fp) (fun s H C cl fp => ht s H C cl fp W0 takes0) (fun s H C cl fp => he s H C cl fp W0 takes0) hs) fun σ H Q h => lc_reads hsl h
theorem cs_setLc (i : Nat) {y : Str} {py : Pos} {elt tg iter : Expr} {ifs : List Expr} {scope : Scope} {spos : Pos} (own : List (Str × Nat)) {sl : List Nat} {mi : EI} {g : Tg} {t : T} {e : E} (hc : X.calm = true) (hN : X.N.Nodup) (hi : CI X tg iter mi) (ok : BlkOk X.N X.env.scope scope own) (hsl : ∀ i ∈ sl, i ∈ own.map (·.2))
    (hg : ∀ s H C cl fp, CG (cxB X scope s H C cl fp) tg sl g) (ht : ∀ s H C cl fp, CTs (cxB X scope s H C cl fp) ifs t) (he : ∀ s H C cl fp, CE (cxB X scope s H C cl fp) elt e) (hsw : swapsWith (.ListComp elt [⟨tg, iter, ifs, 0⟩] scope pos) (some (.Name y py)) spos.line X.env = pure true := by rfl) (hy : X.N[i]? = some y := by rfl) (hyl : X.env.scope.names.lookup y = some .local := by rfl) (hs : ∀ x, foldedSetIterable iter X.env x = pure x := by intro _; rfl) :
    CS X (.Assign [.Name y py] (.ListComp elt [⟨tg, iter, ifs, 0⟩] scope pos) spos) (sSet i (eLc (own.map (·.2)) mi g t e)) := fun W tk =>
  PS.imp (ps_setLc (g := tGv (wd X) tg sl g) (tt := tTv (wd X) t W0) (te := tEv (wd X) e W0) hc hN hy hyl hsw (hi W tk) ok (fun s H C cl fp => hg s H C cl fp) (fun s H C cl fp => ht s H C cl fp W0 takes0) (fun s H C cl fp => he s H C cl fp W0 takes0) hs) fun D σ H ⟨G, ρ, S, rs, re, h⟩ => by
    obtain ⟨G0, ρ0, S0, a, b, c⟩ := tEv.toS rs re h
    exact lc_reads hsl ⟨G0, ρ0, S0, a, b, Go.mono c fun v H1 ⟨G1, d, S1, s, rs1, re1, dv, g⟩ => GoS.nx_ g rs1 (re1.set i dv)⟩
end
end Z

/-! Z14: built-in functions. -/
namespace Z
open PySem PySem.Spec PyProof PyProof.Rows L2
section
variable {X : Cx} {pos : Pos} {k : Nat}
theorem one_of {U : Wd} {G : Gh} {H : Hp} {d : D} {vs : List V} (q : DVs U G H [d] vs) : ∃ v, vs = [v] ∧ DV U G H d v := by
  obtain ⟨v, r, e, h1, h2⟩ := q
  have h2 : r = [] := h2
  subst h2
  exact ⟨v, e, h1⟩
theorem two_of {U : Wd} {G : Gh} {H : Hp} {d e : D} {vs : List V} (q : DVs U G H [d, e] vs) : ∃ v w, vs = [v, w] ∧ DV U G H d v ∧ DV U G H e w := by
  obtain ⟨v, r, e1, h1, w, r2, e2, h2, h3⟩ := q
  have h3 : r2 = [] := h3
  subst h3 e2
  exact ⟨v, w, e1, h1, h2⟩
def oLen : Fn := fun ds S => match ds with
  | [d] => (match rd S d with
    | .tup es => .ok (.int es.length) S
    | .lst es => .ok (.int es.length) S
    | .str l => if fits l.length = true then .ok (.int l.length) S else .bad
    | .dct ks _ => .ok (.int ks.length) S
    | _ => .bad)
  | _ => .bad
theorem cb_len : CB X (.builtin "len") oLen := fun W σ => CallR.imp (CallR.or call_len call_lenD) fun xs H Q ⟨G, S, ds, rs, q, g⟩ => by
  unfold oLen at g
  split at g
  · obtain ⟨v, rfl, dv⟩ := one_of q
    split at g
    · rename_i es e
      obtain ⟨p, vs, rfl, t, q⟩ := rd_tup e dv
      exact .inl ⟨_, _, rfl, .inr ⟨vs, t, rfl⟩, by rw [q.length]; exact Go.ret g rs rfl⟩
    · rename_i es e
      obtain ⟨p, vs, rfl, t, q⟩ := rd_lst rs e dv
      exact .inl ⟨_, _, rfl, .inl ⟨vs, t, rfl⟩, by rw [q.length]; exact Go.ret g rs rfl⟩
    · rename_i l e
      split at g
      · rename_i hf
        have dv := rd_atom e rfl dv
        have dv : v = _ := dv
        subst dv
        exact .inl ⟨_, l.length, rfl, ⟨by simpa [Str.length] using fits_le hf, by simp [Str.length]⟩, Go.ret g rs rfl⟩
      · exact g.elim
    · rename_i ks zs e
      obtain ⟨p, kvs, rfl, hH, h1, h2⟩ := rd_dct rs e dv
      have hl : kvs.length = ks.length := by have := congrArg List.length h1; simpa using this.symm
      exact .inr ⟨p, kvs, rfl, hH, by rw [hl]; exact Go.ret g rs rfl⟩
    · exact g.elim
  · exact g.elim
def oAbs : Fn := fun ds S => match ds with
  | [.int i] => .ok (.int (if i < 0 then -i else i)) S
  | _ => .bad
theorem cb_abs : CB X (.builtin "abs") oAbs := fun W σ => CallR.imp call_abs fun xs H Q ⟨G, S, ds, rs, q, g⟩ => by
  unfold oAbs at g
  split at g
  · rename_i i
    obtain ⟨v, rfl, dv⟩ := one_of q
    have dv : v = _ := dv
    subst dv
    exact ⟨i, rfl, Go.ret g rs rfl⟩
  · exact g.elim
def oInt : Fn := fun ds S => match ds with
  | [.int i] => .ok (.int i) S
  | [.bl b] => .ok (.int (if b then 1 else 0)) S
  | _ => .bad
theorem cb_int : CB X (.type "int") oInt := fun W σ => CallR.imp call_int1 fun xs H Q ⟨G, S, ds, rs, q, g⟩ => by
  unfold oInt at g
  split at g
  · rename_i i
    obtain ⟨v, rfl, dv⟩ := one_of q
    have dv : v = _ := dv
    subst dv
    exact .inl ⟨i, rfl, Go.ret g rs rfl⟩
  · rename_i b
    obtain ⟨v, rfl, dv⟩ := one_of q
    have dv : v = _ := dv
    subst dv
    exact .inr ⟨b, rfl, Go.ret g rs rfl⟩
  · exact g.elim
def oMin : Fn := fun ds S => match ds with
  | [.int i, .int j] => .ok (.int (if j < i then j else i)) S
  | _ => .bad
theorem cb_min (hc : X.calm = true) : CB X (.builtin "min") oMin := fun W σ => CallR.imp (call_min2 hc) fun xs H Q ⟨G, S, ds, rs, q, g⟩ => by
  unfold oMin at g
  split at g
  · rename_i i j
    obtain ⟨v, w, rfl, dv, dw⟩ := two_of q
    have dv : v = _ := dv
    have dw : w = _ := dw
    subst dv dw
    exact ⟨i, j, rfl, Go.ret g rs rfl⟩
  · exact g.elim
def oMax : Fn := fun ds S => match ds with
  | [.int i, .int j] => .ok (.int (if j > i then j else i)) S
  | _ => .bad
theorem cb_max (hc : X.calm = true) : CB X (.builtin "max") oMax := fun W σ => CallR.imp (call_max2 hc) fun xs H Q ⟨G, S, ds, rs, q, g⟩ => by
  unfold oMax at g
  split at g
  · rename_i i j
    obtain ⟨v, w, rfl, dv, dw⟩ := two_of q
    have dv : v = _ := dv
    have dw : w = _ := dw
    subst dv dw
    exact ⟨i, j, rfl, Go.ret g rs rfl⟩
  · exact g.elim
/-- tuple(..) of a list or a tuple -/
def oTuple : Fn := fun ds S => match ds with
  | [d] => (match rd S d with
    | .tup es => .ok (.tup es) S
    | .lst es => .ok (.tup es) S
    | _ => .bad)
  | _ => .bad
theorem rd_tup_id {S : Sto} {d : D} {es : List D} (e : rd S d = .tup es) : d = .tup es := by
  cases d with
  | ref n =>
    unfold rd at e
    dsimp only at e
    cases z : S.get n with
    | none => rw [z] at e; cases e
    | some o => rw [z] at e; cases o <;> cases e
  | _ => exact e
theorem call_tuple_ofF : CallR X (.type "tuple") (fun xs H Q => ∃ p ys, xs = [.ref p] ∧ ((SqL X.K H p ys ∧ ∀ (l : Addr) (o : Obj), H l = none → o.dict = none → Q (.ref l) (upd H l (.frz o (.tup ys)))) ∨ (SqT X.K H p ys ∧ Q (.ref p) H))) := by
  intro pins s σ H xs us Q I r h
  obtain ⟨p, ys, rfl, h⟩ := h
  rcases h with ⟨hq, q⟩ | ⟨hq, q⟩
  · obtain ⟨u, rfl, rx⟩ := vals1 r
    cases rx
    obtain ⟨its, r', pl, hz⟩ := I.list hq
    have hlen := r'.length
    refine call_tuple_list pl.isList (fun h' kp => ?_) (by simp only [List.size_toArray] <;> omega)
    have I1 : Inv X pins σ H { s with heap := h' } := I.kept (t' := s.toks) kp
    have I2 : Inv X pins σ (upd H h'.objs.size (.frz ({ cls := .type "tuple", data := .seq its.toArray } : Obj) (.tup ys))) { s with heap := h'.push { cls := .type "tuple", data := .seq its.toArray } } :=
      I1.laid (t' := s.toks) (fun b o e => Heap.get?_push_of_some _ e) (Nat.le_refl _) ⟨Heap.get?_push_size _ rfl, show ObjOk X.prog X.w _ _ _ (.tup ys) from ⟨hz, its, r', IsTup.new _ _⟩⟩
    exact ⟨.ref h'.objs.size, _, I2, rfl, q _ _ (I1.hok.fresh (Nat.le_refl _)) rfl⟩
  · exact call_tuple_of pins s σ H _ us Q I r ⟨p, ys, rfl, .inr ⟨hq, q⟩⟩
theorem cb_tuple : CB X (.type "tuple") oTuple := fun W σ => CallR.imp call_tuple_ofF fun xs H Q ⟨G, S, ds, rs, q, g⟩ => by
  unfold oTuple at g
  split at g
  · obtain ⟨v, rfl, dv⟩ := one_of q
    split at g
    · rename_i es e
      have e2 := rd_tup_id e
      obtain ⟨p, vs, rfl, t, q⟩ := rd_tup e dv
      exact ⟨p, vs, rfl, .inr ⟨t, Go.ret g rs (by rw [← e2]; exact dv)⟩⟩
    · rename_i es e
      obtain ⟨p, vs, rfl, t, q⟩ := rd_lst rs e dv
      exact ⟨p, vs, rfl, .inl ⟨t, fun l o hl ho => Go.new g rs hl (new_tup rs hl ho q)⟩⟩
    · exact g.elim
  · exact g.elim
/-- list(..), not to be changed -/
def oList : Fn := fun ds S => match ds with
  | [d] => (match rd S d with
    | .tup es => .ok (.lst es) S
    | .lst es => .ok (.lst es) S
    | _ => .bad)
  | _ => .bad
theorem cb_list : CB X (.type "list") oList := fun W σ => CallR.imp call_list_of fun xs H Q ⟨G, S, ds, rs, q, g⟩ => by
  unfold oList at g
  split at g
  · obtain ⟨v, rfl, dv⟩ := one_of q
    split at g
    · rename_i es e
      obtain ⟨p, vs, rfl, t, q⟩ := rd_tup e dv
      exact ⟨p, vs, rfl, .inr t, fun l hl => Go.new g rs hl (new_lst rs hl q)⟩
    · rename_i es e
      obtain ⟨p, vs, rfl, t, q⟩ := rd_lst rs e dv
      exact ⟨p, vs, rfl, .inl t, fun l hl => Go.new g rs hl (new_lst rs hl q)⟩
    · exact g.elim
  · exact g.elim
def blsOf : List D → Option (List Bool)
  | [] => some []
  | .bl b :: ds => (match blsOf ds with
    | some bs => some (b :: bs)
    | none => none)
  | _ :: _ => none
theorem blsOf_vs {U : Wd} {G : Gh} {H : Hp} : ∀ {ds : List D} {bs : List Bool} {vs : List V}, blsOf ds = some bs → DVs U G H ds vs → vs = bs.map V.bl
  | [], bs, vs, h, q => by cases h; exact q
  | d :: ds, bs, vs, h, ⟨v, r, e, h1, h2⟩ => by
    subst e
    cases d with
    | bl b =>
      unfold blsOf at h
      cases z : blsOf ds with
      | none => rw [z] at h; cases h
      | some cs =>
        rw [z] at h; cases h
        have h1 : v = .bl b := h1
        rw [h1, blsOf_vs z h2]; rfl
    | _ => cases h
def oAll : Fn := fun ds S => match ds with
  | [d] => (match rd S d with
    | .lst es => (match blsOf es with
      | some bs => .ok (.bl (bs.all id)) S
      | none => .bad)
    | _ => .bad)
  | _ => .bad
def oAny : Fn := fun ds S => match ds with
  | [d] => (match rd S d with
    | .lst es => (match blsOf es with
      | some bs => .ok (.bl (bs.any id)) S
      | none => .bad)
    | _ => .bad)
  | _ => .bad
theorem cb_all (hc : X.calm = true) : CB X (.builtin "all") oAll := fun W σ => CallR.imp (cr_all hc) fun xs H Q ⟨G, S, ds, rs, q, g⟩ => by
  unfold oAll at g
  split at g
  · obtain ⟨v, rfl, dv⟩ := one_of q
    split at g
    · rename_i es e
      split at g
      · rename_i bs hb
        obtain ⟨p, vs, rfl, t, q⟩ := rd_lst rs e dv
        have := blsOf_vs hb q
        subst this
        exact ⟨p, bs, rfl, t, Go.ret g rs rfl⟩
      · exact g.elim
    · exact g.elim
  · exact g.elim
theorem cb_any (hc : X.calm = true) : CB X (.builtin "any") oAny := fun W σ => CallR.imp (cr_any hc) fun xs H Q ⟨G, S, ds, rs, q, g⟩ => by
  unfold oAny at g
  split at g
  · obtain ⟨v, rfl, dv⟩ := one_of q
    split at g
    · rename_i es e
      split at g
      · rename_i bs hb
        obtain ⟨p, vs, rfl, t, q⟩ := rd_lst rs e dv
        have := blsOf_vs hb q
        subst this
        exact ⟨p, bs, rfl, t, Go.ret g rs rfl⟩
      · exact g.elim
    · exact g.elim
  · exact g.elim
/-! all, any of tuples of truths come by tuple's own walk: later -/

/-! ### isinstance -/
inductive Tyn where
  | int | bool | str | tuple | list
def Tyn.nm : Tyn → String
  | .int => "int" | .bool => "bool" | .str => "str" | .tuple => "tuple" | .list => "list"
def tyB (t : Tyn) : D → Option Bool
  | .non => some false
  | .bl _ => some (match t with | .int => true | .bool => true | _ => false)
  | .int _ => some (match t with | .int => true | _ => false)
  | .str _ => some (match t with | .str => true | _ => false)
  | .tup _ => some (match t with | .tuple => true | _ => false)
  | .lst _ => some (match t with | .list => true | _ => false)
  | .dct _ _ => some false
  | _ => none
def tyNm : D → String
  | .non => "NoneType" | .bl _ => "bool" | .int _ => "int" | .str _ => "str" | .tup _ => "tuple" | .lst _ => "list" | _ => "dict"
theorem kit_B {t : Tyn} {d : D} {b : Bool} (h : tyB t d = some b) : kitB (tyNm d) t.nm = some b := by
  cases d <;> cases t <;> simp only [tyB, Option.some.injEq] at h <;> first | (subst h; simp only [tyNm, Tyn.nm]; decide +kernel) | cases h
theorem tyx_seq {K : PySem.W.Frag} {H : Hp} {p : Addr} {vs : List V} (t : SqT K H p vs) : TyX K H (.ref p) (.type "tuple") := by
  rcases t with (e | ⟨o, e⟩) | ⟨o, its, n, e, c, _⟩
  · exact .base (.tup e)
  · exact .fTuple e
  · exact .kTuple e c
theorem tyx_lst {K : PySem.W.Frag} {H : Hp} {p : Addr} {vs : List V} (t : SqL K H p vs) : TyX K H (.ref p) (.type "list") := by
  rcases t with (e | ⟨o, e⟩) | ⟨o, its, n, e, c, _⟩
  · exact .base (.lst e)
  · exact .base (.frz e)
  · exact .kList e c
theorem tyx_of {U : Wd} {G : Gh} {S : Sto} {H : Hp} {d : D} {v : V} {t : Tyn} {b : Bool} (rs : RelS U G S H) (q : DV U G H d v) (h : tyB t (rd S d) = some b) : TyX U.K H v (.type (tyNm (rd S d))) := by
  cases e : rd S d with
  | non => have q := rd_atom e rfl q; have q : v = _ := q; subst q; exact .base .non
  | bl c => have q := rd_atom e rfl q; have q : v = _ := q; subst q; exact .base (.bl _)
  | int i => have q := rd_atom e rfl q; have q : v = _ := q; subst q; exact .base (.int _)
  | str s => have q := rd_atom e rfl q; have q : v = _ := q; subst q; exact .base (.str _)
  | tup ds => obtain ⟨p, vs, rfl, t, _⟩ := rd_tup e q; exact tyx_seq t
  | lst ds => obtain ⟨p, vs, rfl, t, _⟩ := rd_lst rs e q; exact tyx_lst t
  | dct ks zs => obtain ⟨p, kvs, rfl, hH, _⟩ := rd_dct rs e q; exact .base (.dK hH)
  | dcn ks zs => rw [e] at h; simp [tyB] at h
  | ref n => rw [e] at h; simp [tyB] at h
  | arg ns => rw [e] at h; simp [tyB] at h
def eIsi (t : Tyn) (m : E) : E := fun ρ S => (m ρ S).bind fun d S => match tyB t (rd S d) with
  | some b => .ok (.bl b) S
  | none => .bad
theorem ce_isi (t : Tyn) {x tn : Str} {p p2 : Pos} {e : Expr} {m : E} (hg : Gl X x) (hm : X.mg x = none) (he : CE X e m) (hgt : Gl X tn) (hmt : X.mg tn = none) (hx : x = "isinstance" := by rfl) (htn : bootBuiltins tn = some (.type t.nm) := by decide +kernel) (hn : tn ≠ "__name__" := by decide) (hd : (tn == ("__debug__" : Str)) = false := by decide)
    (h1 : starEach [e, .Name tn p2] X.env = (false, eval e X.env) :: starEach [.Name tn p2] X.env := by rfl) (h2 : starEach [.Name tn p2] X.env = (false, eval (.Name tn p2) X.env) :: starEach [] X.env := by rfl) (hpl : (backTo pos (starEach [.Name tn p2] X.env)).any (·.1) = false := by rfl) :
    CE X (.Call (.Name x p) [e, .Name tn p2] [] pos) (eIsi t m) := fun W tk => by
  subst hx
  refine PE.imp (pe_callB call_isi hg hm PyProof.Rows.boot_isinstance (pa_cons (he W tk) (pa_cons (pe_bltn (v := .ty t.nm) hgt hmt htn rfl hn hd) pa_nil h2) h1) (by decide) (by decide) h1 hpl) fun σ H Q ⟨G, ρ, S, rs, re, h⟩ => ?_
  obtain ⟨G0, ρ0, S0, a, b, c⟩ := tEv.bind rs re h
  refine ⟨G0, ρ0, S0, a, b, Go.mono c fun v H1 ⟨G1, d, S1, s, rs1, re1, dv, g⟩ => ?_⟩
  cases e : tyB t (rd S1 d) with
  | none => rw [e] at g; exact g.elim
  | some b => rw [e] at g; exact ⟨v, .ty t.nm, _, _, b, rfl, .ty _, tyx_of rs1 dv e, kit_ty (kit_B e), Go.ret g rs1 rfl⟩
end
end Z

/-! Z15: repr, sorted texts, dicts made. -/
namespace Z
open PySem PySem.Spec PyProof PyProof.Rows L2
/-! ### texts in order -/
def insS (x : List Nat) : List (List Nat) → List (List Nat)
  | [] => [x]
  | y :: ys => if ltCps y x = true then y :: insS x ys else x :: y :: ys
def srtS : List (List Nat) → List (List Nat)
  | [] => []
  | x :: xs => insS x (srtS xs)
theorem ltCps_irr : ∀ a : List Nat, ltCps a a = false
  | [] => rfl
  | x :: xs => by simp [ltCps, ltCps_irr xs]
theorem ltCps_asym : ∀ a b : List Nat, ltCps a b = true → ltCps b a = false
  | [], [], h => by cases h
  | [], _ :: _, _ => rfl
  | _ :: _, [], h => by cases h
  | x :: xs, y :: ys, h => by
    simp only [ltCps, Bool.or_eq_true, decide_eq_true_eq, Bool.and_eq_true, beq_iff_eq] at h
    simp only [ltCps, Bool.or_eq_false_iff, decide_eq_false_iff_not, Bool.and_eq_false_iff, beq_eq_false_iff_ne]
    rcases h with h | ⟨h1, h2⟩
    · exact ⟨by omega, .inl (by omega)⟩
    · exact ⟨by omega, .inr (ltCps_asym xs ys h2)⟩
theorem ltCps_tri : ∀ a b : List Nat, ltCps a b = false → ltCps b a = false → a = b
  | [], [], _, _ => rfl
  | [], _ :: _, h, _ => by cases h
  | _ :: _, [], _, h => by cases h
  | x :: xs, y :: ys, h, k => by
    simp only [ltCps, Bool.or_eq_false_iff, decide_eq_false_iff_not, Bool.and_eq_false_iff, beq_eq_false_iff_ne] at h k
    have e : x = y := by omega
    subst e
    rw [ltCps_tri xs ys (h.2.resolve_left fun z => z rfl) (k.2.resolve_left fun z => z rfl)]
theorem ltCps_tr : ∀ a b c : List Nat, ltCps b a = false → ltCps c b = false → ltCps c a = false
  | [], [], [], _, _ => rfl
  | [], [], _ :: _, _, h => h
  | [], _ :: _, [], _, h => by cases h
  | [], _ :: _, _ :: _, h, _ => by rfl
  | _ :: _, [], [], h, _ => by cases h
  | _ :: _, [], _ :: _, h, _ => by cases h
  | _ :: _, _ :: _, [], _, h => by cases h
  | x :: xs, y :: ys, z :: zs, h, k => by
    simp only [ltCps, Bool.or_eq_false_iff, decide_eq_false_iff_not, Bool.and_eq_false_iff, beq_eq_false_iff_ne] at h k ⊢
    refine ⟨by omega, ?_⟩
    by_cases e : z = x
    · subst e
      have e2 : y = z := by omega
      subst e2
      exact .inr (ltCps_tr xs ys zs (h.2.resolve_left fun z => z rfl) (k.2.resolve_left fun z => z rfl))
    · exact .inl e
abbrev SoS (l : List (List Nat)) : Prop := l.Pairwise fun a b => ltCps b a = false
theorem insS_perm (x : List Nat) : ∀ l, (insS x l).Perm (x :: l)
  | [] => List.Perm.refl _
  | y :: ys => by
    unfold insS
    split
    · exact ((insS_perm x ys).cons y).trans (List.Perm.swap x y ys)
    · exact List.Perm.refl _
theorem insS_so (x : List Nat) : ∀ {l}, SoS l → SoS (insS x l)
  | [], _ => List.pairwise_singleton _ _
  | y :: ys, h => by
    unfold insS
    obtain ⟨h1, h2⟩ := List.pairwise_cons.mp h
    split
    · rename_i hl
      refine List.pairwise_cons.mpr ⟨fun z hz => ?_, insS_so x h2⟩
      rcases List.mem_cons.mp ((insS_perm x ys).mem_iff.mp hz) with e | hz
      · subst e; exact ltCps_asym _ _ hl
      · exact h1 z hz
    · rename_i hl
      have hl : ltCps y x = false := by simpa using hl
      refine List.pairwise_cons.mpr ⟨fun z hz => ?_, h⟩
      rcases List.mem_cons.mp hz with e | hz
      · subst e; exact hl
      · exact ltCps_tr _ _ _ hl (h1 z hz)
theorem srtS_perm : ∀ l, (srtS l).Perm l
  | [] => List.Perm.refl _
  | x :: xs => (insS_perm x _).trans ((srtS_perm xs).cons x)
theorem srtS_so : ∀ l, SoS (srtS l)
  | [] => List.Pairwise.nil
  | x :: xs => insS_so x (srtS_so xs)
theorem sorted_uniq {l m : List (List Nat)} (p : l.Perm m) (h : SoS l) (k : SoS m) : l = m := p.eq_of_pairwise (fun a b _ _ h1 h2 => ltCps_tri a b h2 h1) h k
def ofS (s : Str) : List Nat := s.cps.toList
theorem sortedS_so : ∀ {l : List Str}, sortedS l = true → SoS (l.map ofS)
  | [], _ => List.Pairwise.nil
  | x :: r, h => by
    have go : ∀ (r : List Str) (x : Str), risingS x r = true → SoS ((x :: r).map ofS) := by
      intro r
      induction r with
      | nil => intro x _; exact List.pairwise_singleton _ _
      | cons y r ih =>
        intro x h
        have h : (!ltCps y.cps.toList x.cps.toList && risingS y r) = true := h
        obtain ⟨h1, h2⟩ := Bool.and_eq_true_iff.mp h
        have h1 : ltCps (ofS y) (ofS x) = false := by simpa [ofS] using h1
        have q := ih y h2
        refine List.pairwise_cons.mpr ⟨fun z hz => ?_, q⟩
        obtain ⟨q1, _⟩ := List.pairwise_cons.mp q
        have hz : z = ofS y ∨ z ∈ r.map ofS := by simpa using hz
        rcases hz with e | hz
        · subst e; exact h1
        · exact ltCps_tr _ _ _ h1 (q1 z hz)
    exact go r x h
def strsOf : List D → Option (List (List Nat))
  | [] => some []
  | .str s :: ds => (match strsOf ds with
    | some bs => some (s :: bs)
    | none => none)
  | _ :: _ => none
def toS (l : List Nat) : Str := ⟨l.toArray⟩
theorem strsOf_keys : ∀ {ks : List D} {ls : List (List Nat)}, strsOf ks = some ls → ks.map keyOf = ls.map fun l => some (Sum.inr (toS l))
  | [], ls, h => by cases h; rfl
  | d :: ds, ls, h => by
    cases d with
    | str s =>
      unfold strsOf at h
      cases z : strsOf ds with
      | none => rw [z] at h; cases h
      | some bs => rw [z] at h; cases h; rw [List.map_cons, List.map_cons, strsOf_keys z]; rfl
    | _ => cases h
theorem map_ofS : ∀ ls : List (List Nat), (ls.map toS).map ofS = ls
  | [] => rfl
  | l :: ls => by rw [List.map_cons, List.map_cons, map_ofS ls]; simp [ofS, toS]
theorem map_toS : ∀ ls : List Str, (ls.map ofS).map toS = ls
  | [] => rfl
  | l :: ls => by rw [List.map_cons, List.map_cons, map_toS ls]; simp [ofS, toS]
theorem strs_vs {U : Wd} {G : Gh} {H : Hp} : ∀ {ls : List (List Nat)}, DVs U G H (ls.map .str) ((ls.map toS).map V.str)
  | [] => rfl
  | _ :: _ => ⟨_, _, rfl, rfl, strs_vs⟩
/-- sorted(a dict of texts) -/
def oSortDS : Fn := fun ds S => match ds with
  | [d] => (match rd S d with
    | .dct ks _ => (match strsOf ks with
      | some ls => if ls.length < 64 then .ok (.lst ((srtS ls).map .str)) S else .bad
      | none => .bad)
    | _ => .bad)
  | _ => .bad
section
variable {X : Cx} {pos : Pos} {k : Nat}
theorem cb_sortDS (hc : X.calm = true) : CB X (.builtin "sorted") oSortDS := fun W σ => CallR.imp (call_sortedD hc) fun xs H Q ⟨G, S, ds, rs, q, g⟩ => by
  unfold oSortDS at g
  split at g
  · obtain ⟨v, rfl, dv⟩ := one_of q
    split at g
    · rename_i ks zs e
      split at g
      · rename_i ls hl
        split at g
        · rename_i h64
          obtain ⟨p, kvs, rfl, hH, h1, h2⟩ := rd_dct rs e dv
          rw [strsOf_keys hl] at h1
          have e1 : kvs.map (·.1) = (ls.map toS).map Sum.inr := by
            have z : ∀ {ls : List (List Nat)} {kvs : List (Key × V)}, (ls.map fun l => some (Sum.inr (toS l) : Key)) = kvs.map (fun p => some p.1) → kvs.map (·.1) = (ls.map toS).map Sum.inr := by
              intro ls
              induction ls with
              | nil => intro kvs h; cases kvs with
                | nil => rfl
                | cons _ _ => simp at h
              | cons l ls ih => intro kvs h; cases kvs with
                | nil => simp at h
                | cons p r =>
                  simp only [List.map_cons, List.cons.injEq, Option.some.injEq] at h
                  rw [List.map_cons, List.map_cons, List.map_cons, ih h.2, ← h.1]
            exact z h1
          refine ⟨p, kvs, ls.map toS, rfl, .inl hH, e1, by rw [List.length_map]; exact h64, fun ys l hp hs hl => ?_⟩
          have e2 : ys.map ofS = srtS ls := by
            refine sorted_uniq ?_ (sortedS_so hs) (srtS_so ls)
            have := hp.map ofS
            rw [map_ofS] at this
            exact this.trans (srtS_perm ls).symm
          have e3 : ys = (srtS ls).map toS := by rw [← e2, map_toS]
          rw [e3]
          exact Go.new g rs hl (new_lst rs hl strs_vs)
        · exact g.elim
      · exact g.elim
    · exact g.elim
  · exact g.elim
end
/-! ### repr -/
mutual
/-- no longer than that -/
def wt : D → Nat
  | .non => 4
  | .bl _ => 5
  | .int i => if i.natAbs < 1000000000000000000 then 19 else 20000000
  | .str s => 10 * s.length + 2
  | .tup ds => wts ds + 5
  | .lst ds => wts ds + 5
  | _ => 0
def wts : List D → Nat
  | [] => 0
  | d :: ds => wt d + 2 + wts ds
end
theorem textFrom_le : ∀ (ts : List Str) (k : Nat) (acc : Str), (textFrom k acc ts).length ≤ acc.length + piled ts
  | [], k, acc => by show acc.length ≤ acc.length + 0; omega
  | t :: ts, k, acc => by
    have h := textFrom_le ts (k + 1) (acc ++ ((if k > 0 then ", " else "" : String) : Str) ++ t)
    have e : (((if k > 0 then ", " else "" : String) : Str)).length ≤ 2 := by
      by_cases hk : k > 0
      · rw [if_pos hk]; decide
      · rw [if_neg hk]; decide
    rw [Str.length_append, Str.length_append] at h
    rw [piled_cons]
    show (textFrom (k + 1) _ ts).length ≤ _
    omega
theorem listText_le (ts : List Str) : (listText ts).length ≤ piled ts + 2 := by
  unfold listText
  rw [Str.length_append]
  have h := textFrom_le ts 0 "["
  have e1 : (("[" : String) : Str).length = 1 := by decide
  have e2 : (("]" : String) : Str).length = 1 := by decide
  rw [e1] at h
  rw [e2]
  omega
theorem tupleText_le (ts : List Str) : (tupleText ts).length ≤ piled ts + 3 := by
  unfold tupleText
  rw [Str.length_append, Str.length_append]
  have e1 : (("(" : String) : Str).length = 1 := by decide
  have e2 : (((if ts.length == 1 then ",)" else ")" : String)) : Str).length ≤ 2 := by
    split <;> decide
  have e3 : (Str.join ", " ts).length ≤ piled ts := by
    cases ts with
    | nil => show (Str.join ", " []).length ≤ 0; decide
    | cons a r => have := join_length_add (a :: r) (by simp); omega
  rw [e1]
  omega
mutual
theorem shown_le : ∀ (d : D) (n : Nat), shp n d = true → wt d ≤ 16777216 → (toPy d).shown.length ≤ wt d ∧ (toPy d).showable = true
  | .non, n, h, _ => ⟨by show (("None" : String) : Str).length ≤ 4; decide, rfl⟩
  | .bl true, n, h, _ => ⟨by show (("True" : String) : Str).length ≤ 5; decide, rfl⟩
  | .bl false, n, h, _ => ⟨by show (("False" : String) : Str).length ≤ 5; decide, rfl⟩
  | .int i, n, h, hw => by
    simp only [wt] at hw ⊢
    by_cases hi : i.natAbs < 1000000000000000000
    · rw [if_pos hi]
      refine ⟨?_, ?_⟩
      · show (Str.ofString (toString i)).length ≤ 19
        rw [PySem.ofString_length]
        exact int_text_length_le10 (k := 18) (by decide) (by simpa using hi)
      · show decide (i.natAbs.log2 < 1920) = true
        refine decide_eq_true ?_
        rcases Nat.eq_zero_or_pos i.natAbs with z | z
        · rw [z]; decide
        · have := (Nat.log2_lt (n := i.natAbs) (k := 60) (by omega)).mpr (Nat.lt_trans hi (by decide))
          omega
    · rw [if_neg hi] at hw; omega
  | .str s, n, h, _ => ⟨by
      have h : (s.all fun c => Nat.blt c 0x110000) = true := by simpa [shp] using h
      have e := StrLaws.reprText_len (⟨s.toArray⟩ : Str) (fun c hc => by
        rw [List.all_eq_true] at h
        have hc : c ∈ s := by simpa using hc
        have := Nat.le_of_ble_eq_true (h c hc)
        omega)
      simpa [toPy, PyData.shown, wt, Str.length] using e, rfl⟩
  | .tup ds, n, h, hw => by
    have h : shps n ds = true := by simpa [shp] using h
    simp only [wt] at hw ⊢
    obtain ⟨a, b⟩ := showns_le ds n h (by omega)
    refine ⟨?_, b⟩
    show (tupleText (PyData.shownAll (toPys ds))).length ≤ _
    have := tupleText_le (PyData.shownAll (toPys ds))
    omega
  | .lst ds, n, h, hw => by
    have h : shps n ds = true := by simpa [shp] using h
    simp only [wt] at hw ⊢
    obtain ⟨a, b⟩ := showns_le ds n h (by omega)
    refine ⟨?_, b⟩
    show (listText (PyData.shownAll (toPys ds))).length ≤ _
    have := listText_le (PyData.shownAll (toPys ds))
    omega
  | .dct _ _, n, h, _ => by simp [shp] at h
  | .dcn _ _, n, h, _ => by simp [shp] at h
  | .ref _, n, h, _ => by simp [shp] at h
  | .arg _, n, h, _ => by simp [shp] at h
theorem showns_le : ∀ (ds : List D) (n : Nat), shps n ds = true → wts ds ≤ 16777216 → piled (PyData.shownAll (toPys ds)) ≤ wts ds ∧ PyData.showableAll (toPys ds) = true
  | [], n, h, _ => ⟨Nat.le_refl _, rfl⟩
  | d :: ds, 0, h, _ => by simp [shps] at h
  | d :: ds, n + 1, h, hw => by
    have h : (shp n d && shps (n + 1) ds) = true := by simpa [shps] using h
    obtain ⟨h1, h2⟩ := Bool.and_eq_true_iff.mp h
    simp only [wts] at hw ⊢
    obtain ⟨a1, b1⟩ := shown_le d n h1 (by omega)
    obtain ⟨a2, b2⟩ := showns_le ds (n + 1) h2 (by omega)
    refine ⟨?_, ?_⟩
    · show piled ((toPy d).shown :: PyData.shownAll (toPys ds)) ≤ _
      rw [piled_cons]; omega
    · show (PyData.showable (toPy d) && PyData.showableAll (toPys ds)) = true
      rw [b1, b2]; rfl
end
/-- what repr writes (never worked out here) -/
def repL (d : D) : List Nat := (toPy d).shown.cps.toList
def oRepr : Fn := fun ds S => match ds with
  | [d] => if shp 60 (rd S d) = true ∧ Nat.ble (wt (rd S d)) 16777216 = true then .ok (.str (repL (rd S d))) S else .bad
  | _ => .bad
section
variable {X : Cx} {pos : Pos} {k : Nat}
theorem cb_repr (hr : Room k X.A) (hg : X.A.guards = some []) : CB X (.builtin "repr") oRepr := fun W σ pins s σ' H xs us Q I rxs ⟨G, S, ds, rs, q, g⟩ => by
  unfold oRepr at g
  split at g
  · rename_i d
    split at g
    · rename_i h
      obtain ⟨v, rfl, dv⟩ := one_of q
      obtain ⟨u, rfl, ru⟩ := rxs.one
      have hw := Nat.le_of_ble_eq_true h.2
      obtain ⟨l1, sh⟩ := shown_le _ _ h.1 hw
      obtain ⟨as, r⟩ := Dp.reads I _ v u (dv.dpr rs h.1) ru
      obtain ⟨pd, epd⟩ : ∃ pd, pd = toPy (rd S d) := ⟨_, rfl⟩
      rw [← epd] at r
      have hd := (shp_ok _ _ h.1).2
      have hdc := PyData.hasDict_of_canLay _ (shp_ok _ _ h.1).1
      have hz : (toPy (rd S d)).shown.length ≤ sizeLine := by rw [sizeLine_eq]; omega
      have fin : ∀ (h' : Heap) (tk : Tok) (tk' : Nat), (∀ b o, s.heap.get? b = some o → h'.get? b = some o) → EP X pins σ' Q (.str (toPy (rd S d)).shown tk) { s with heap := h', toks := tk' } := fun h' tk tk' hk =>
        ⟨.str _, H, I.kept hk, ⟨tk, rfl⟩, by
          have e : (⟨(repL (rd S d)).toArray⟩ : Str) = (toPy (rd S d)).shown := by simp [repL]
          rw [← e]; exact Go.ret g rs rfl⟩
      cases u with
      | ref a =>
        rw [epd] at r
        exact repr_of_reads' r sh (fun e => by rw [hdc] at e; cases e) hg (by have := hr.un; omega) (fun _ _ e => e) (fun h' u' tk hk => fin h' u' tk hk) hz
      | none =>
        have e : toPy (rd S d) = .none := by rw [← epd]; cases r; rfl
        exact P.repr_of_none (by have z := fin s.heap s.toks (s.toks + 1) (fun _ _ e => e); rw [e] at z; exact z)
      | bool b =>
        have e : toPy (rd S d) = .bool b := by rw [← epd]; cases r; rfl
        exact P.repr_of_bool (by have z := fin s.heap s.toks (s.toks + 1) (fun _ _ e => e); rw [e] at z; exact z)
      | int i t =>
        have e : toPy (rd S d) = .int i := by rw [← epd]; cases r; rfl
        rw [e] at sh
        exact P.repr_of_int (of_decide_eq_true sh) (by have z := fin s.heap s.toks (s.toks + 1) (fun _ _ e => e); rw [e] at z; exact z)
      | str x t =>
        have e : toPy (rd S d) = .str x := by rw [← epd]; cases r; rfl
        rw [e] at hz
        exact P.repr_of_str (by have z := fin s.heap s.toks (s.toks + 1) (fun _ _ e => e); rw [e] at z; exact z) hz
      | _ => cases r
    · exact g.elim
  · exact g.elim
end
end Z

/-! Z16: dict comprehensions and displays. -/
namespace Z
open PySem PySem.Spec PyProof PyProof.Rows L2
def dcT (g : Tg) (t : T) (ek ev : E) (ρ : Env) (d : D) (S : Sto) : R (Option (D × D)) := match g d ρ S with
  | none => .bad
  | some ρ' => (t ρ' S).bind fun b S => if b = true then (ek ρ' S).bind fun y S => (ev ρ' S).bind fun z S => .ok (some (y, z)) S else .ok none S
def dcPut (a : List D × List D) (y z : D) : Option (List D × List D) := match keyOf y with
  | some _ => if fits (a.1.length + 1) = true then some (dput a.1 a.2 y z) else none
  | none => none
def dcS (turn : D → Sto → R (Option (D × D))) : List D → List D × List D → Sto → R (List D × List D)
  | [], a, S => .ok a S
  | d :: ds, a, S => match turn d S with
    | .ok (some (y, z)) S' => (match dcPut a y z with
      | some a' => dcS turn ds a' S'
      | none => .bad)
    | .ok none S' => dcS turn ds a S'
    | _ => .bad
def dcI (turn : D → Sto → R (Option (D × D))) (src : Src) : Nat → Nat → List D × List D → Sto → R (List D × List D)
  | 0, _, _, _ => .bad
  | k + 1, i, a, S => match look src S with
    | none => .bad
    | some ds => (match ds[i]? with
      | none => .ok a S
      | some d => (match turn d S with
        | .ok (some (y, z)) S' => (match dcPut a y z with
          | some a' => dcI turn src k (i + 1) a' S'
          | none => .bad)
        | .ok none S' => dcI turn src k (i + 1) a S'
        | _ => .bad))
theorem dcS_I {turn : D → Sto → R (Option (D × D))} {ds : List D} : ∀ (k i : Nat), ds.length < k + i → i ≤ ds.length → ∀ a S, dcI turn (.st ds) k i a S = dcS turn (ds.drop i) a S
  | 0, i, h, hi, a, S => by omega
  | k + 1, i, h, hi, a, S => by
    unfold dcI
    show (match ds[i]? with | none => _ | some d => _) = _
    cases e : ds[i]? with
    | none =>
      have := List.getElem?_eq_none_iff.mp e
      rw [List.drop_of_length_le this]
      rfl
    | some d =>
      obtain ⟨hl, hd⟩ := List.getElem?_eq_some_iff.mp e
      rw [List.drop_eq_getElem_cons hl, hd]
      have ih := dcS_I (turn := turn) (ds := ds) k (i + 1) (by omega) hl
      show (match turn d S with
        | .ok (some (y, z)) S' => (match dcPut a y z with
          | some a' => dcI turn (.st ds) k (i + 1) a' S'
          | none => .bad)
        | .ok none S' => dcI turn (.st ds) k (i + 1) a S'
        | _ => .bad) = _
      unfold dcS
      cases turn d S with
      | ok o S' =>
        cases o with
        | none => exact ih a S'
        | some p =>
          obtain ⟨y, z⟩ := p
          dsimp only
          cases dcPut a y z with
          | none => rfl
          | some a' => exact ih a' S'
      | ex x S' => rfl
      | bad => rfl
def dcRun (turn : D → Sto → R (Option (D × D))) (src : Src) (S : Sto) : R (List D × List D) := match src with
  | .st ds => dcS turn ds ([], []) S
  | .lv f => (match f S with
    | some ds => dcI turn (.lv f) (ds.length + 1) 0 ([], []) S
    | none => .bad)
theorem dcRun_I {turn : D → Sto → R (Option (D × D))} {src : Src} {S : Sto} : ∃ k, dcRun turn src S = dcI turn src k 0 ([], []) S := by
  cases src with
  | st ds => exact ⟨ds.length + 1, by rw [dcS_I _ 0 (by omega) (Nat.zero_le _)]; rfl⟩
  | lv f =>
    cases e : f S with
    | none => exact ⟨0, by show (match f S with | some ds => _ | none => _) = _; rw [e]; rfl⟩
    | some ds => exact ⟨ds.length + 1, by show (match f S with | some ds => _ | none => _) = _; rw [e]⟩
def eDc (vs : List Nat) (mi : EI) (g : Tg) (t : T) (ek ev : E) : E := fun ρ S => (mi ρ S).bind fun src S => match dcRun (dcT g t ek ev (wipeE ρ vs)) src S with
  | .ok a S' => .ok (.dct a.1 a.2) S'
  | _ => .bad
def LeftD (U : Wd) (G : Gh) (H1 : Hp) (Q : VK) (r : R (List D × List D)) : Prop := match r with
  | .ok a S' => ∀ G' v H', Step G H1 G' H' → RelS U G' S' H' → DV U G' H' (.dct a.1 a.2) v → Q v H'
  | _ => False
theorem back_dct {U : Wd} {G Gi : Gh} {S : Sto} {H1 : Hp} {D : Addr} {Si : Sto} {Hi : Hp} {ks zs : List Z.D} {kvs : List (Key × V)} (rs1 : RelS U G S H1) (hD : H1 D = none) (s : Step G H1 Gi Hi) (rs : RelS U Gi Si Hi) (hh : Gi.hid D) (h : Hi D = some (.dK kvs)) (hk : ks.map keyOf = kvs.map (fun p => some p.1)) (q : DVs U Gi Hi zs (kvs.map (·.2))) : DV U (Gi.back G) Hi (.dct ks zs) (.ref D) := by
  refine ⟨D, kvs, rfl, ⟨h, fun i hi e => rs.dis i hi (by rw [show Gi.ι i = D from e]; exact hh), fun z => ?_⟩, hk, q.kp (back_keep (Si := Si) s)⟩
  obtain ⟨u, w, _⟩ := rs1.hid D z
  rw [hD] at w; cases w
section
variable {X : Cx} {pos : Pos}
theorem dc_reads {tg : Expr} {U : Wd} {vs sl : List Nat} {mi : EI} {g : Tg} {t : T} {ek ev : E} {W : WX} {σ : L2.St} {H : Hp} {Q : VK} (hsl : ∀ i ∈ sl, i ∈ vs) (h : tEv U (eDc vs mi g t ek ev) W σ H Q) : tDc (tIv tg U mi W) (tGv U tg sl g) (tTv U t W0) (tEv U ek W0) (tEv U ev W0) vs σ H Q := by
  obtain ⟨G, ρ, S, rs, re, h⟩ := h
  refine ⟨G, ρ, S, rs, re, Go.mono (Go.bind (rel := relI tg U) h) fun J H1 ⟨G1, src, S1, s1, rs1, ri, g1⟩ => ?_⟩
  have re1 := re.mono s1
  intro D hD
  have hleft : LeftD U G1 H1 Q (dcRun (dcT g t ek ev (wipeE ρ vs)) src S1) := by
    unfold LeftD
    cases er : dcRun (dcT g t ek ev (wipeE ρ vs)) src S1 with
    | ok a S' => rw [er] at g1; exact g1
    | ex x S' => rw [er] at g1; exact g1.elim
    | bad => rw [er] at g1; exact g1.elim
  obtain ⟨k, e0⟩ := dcRun_I (turn := dcT g t ek ev (wipeE ρ vs)) (src := src) (S := S1)
  rw [e0] at hleft
  refine ⟨fun i m H' => ∃ (Gi : Gh) (Si : Sto) (kvs : List (Key × V)) (a : List Z.D × List Z.D), Step G1 H1 Gi H' ∧ RelS U Gi Si H' ∧ Gi.hid D ∧ H' D = some (.dK kvs) ∧ a.1.map keyOf = kvs.map (fun p => some p.1) ∧ DVs U Gi H' a.2 (kvs.map (·.2)) ∧ LeftD U G1 H1 Q (dcI (dcT g t ek ev (wipeE ρ vs)) src m i a Si),
    ⟨k, G1.hide D, S1, [], ([], []), hide_step rs1 hD, hide_rel rs1 hD rfl, .inr rfl, upd_same, rfl, rfl, hleft⟩, ?_⟩
  intro i m H2 ⟨G2, S2, kvs, a, s2, rs2, hh2, hD2, hka, qa, hl⟩
  cases m with
  | zero => exact hl.elim
  | succ m =>
    unfold dcI at hl
    cases el : look src S2 with
    | none => rw [el] at hl; exact hl.elim
    | some ds =>
      rw [el] at hl
      dsimp only at hl
      obtain ⟨r1, r2⟩ := ri G2 H2 S2 ds s2 rs2 el i
      cases ed : ds[i]? with
      | none =>
        rw [ed] at hl
        exact .inl ⟨r2 ed, hl _ _ _ (back_step s2) (back_rel s2 rs2) (back_dct rs1 hD s2 rs2 hh2 hD2 hka qa)⟩
      | some d =>
        rw [ed] at hl
        dsimp only at hl
        obtain ⟨go, yl⟩ := r1 d ed
        refine .inr ⟨go, fun H' => ∃ m', m' < m + 1 ∧ ∃ (Gi : Gh) (Si : Sto) (kvs : List (Key × V)) (a : List Z.D × List Z.D), Step G1 H1 Gi H' ∧ RelS U Gi Si H' ∧ Gi.hid D ∧ H' D = some (.dK kvs) ∧ a.1.map keyOf = kvs.map (fun p => some p.1) ∧ DVs U Gi H' a.2 (kvs.map (·.2)) ∧ LeftD U G1 H1 Q (dcI (dcT g t ek ev (wipeE ρ vs)) src m' (i + 1) a Si), fun H' h => h, fun x H3 hy => ?_⟩
        obtain ⟨G3, s3, rs3, dv⟩ := yl x H3 hy
        have s13 := s2.trans s3
        refine ⟨G3, wipeE ρ vs, S2, d, rs3, (re1.mono s13).wipe vs, dv, ?_⟩
        have hh3 := s3.hid D hh2
        have hD3 := s3.keep D _ hD2 (.inr hh2)
        have qa3 := qa.mono s3
        unfold dcT at hl
        cases eg : g d (wipeE ρ vs) S2 with
        | none => rw [eg] at hl; exact hl.elim
        | some ρ3 =>
          rw [eg] at hl
          dsimp only at hl
          intro σ4 re4 df
          refine ⟨(wipe_diff df hsl).trans wipe_wipe, G3, ρ3, S2, rs3, re4, ?_⟩
          cases et : t ρ3 S2 with
          | bad => rw [et] at hl; exact hl.elim
          | ex x S' => rw [et] at hl; exact hl.elim
          | ok b S4 =>
            rw [et] at hl
            intro G4 b' H4 s4 rs4 eb
            have eb : b = b' := eb
            subst eb
            have s14 := s13.trans s4
            have hh4 := s4.hid D hh3
            have hD4 := s4.keep D _ hD3 (.inr hh3)
            have qa4 := qa3.mono s4
            unfold R.bind at hl
            dsimp only at hl
            by_cases hb : b = true
            · rw [if_pos hb] at hl ⊢
              refine ⟨G4, ρ3, S4, rs4, re4.mono s4, ?_⟩
              cases ee : ek ρ3 S4 with
              | bad => rw [ee] at hl; exact hl.elim
              | ex x S' => rw [ee] at hl; exact hl.elim
              | ok y S5 =>
                rw [ee] at hl
                dsimp only at hl
                intro G5 v H5 s5 rs5 dy
                have s15 := s14.trans s5
                have hh5 := s5.hid D hh4
                have hD5 := s5.keep D _ hD4 (.inr hh4)
                have qa5 := qa4.mono s5
                refine ⟨G5, ρ3, S5, rs5, (re4.mono s4).mono s5, ?_⟩
                cases ez : ev ρ3 S5 with
                | bad => rw [ez] at hl; exact hl.elim
                | ex x S' => rw [ez] at hl; exact hl.elim
                | ok z S6 =>
                  rw [ez] at hl
                  dsimp only at hl
                  intro G6 w H6 s6 rs6 dz
                  have s16 := s15.trans s6
                  have hh6 := s6.hid D hh5
                  have hD6 := s6.keep D _ hD5 (.inr hh5)
                  have qa6 := qa5.mono s6
                  have dy6 := dy.mono s6
                  unfold dcPut at hl
                  cases ek2 : keyOf y with
                  | none => rw [ek2] at hl; exact hl.elim
                  | some kk =>
                    rw [ek2] at hl
                    dsimp only at hl
                    by_cases hf : fits (a.1.length + 1) = true
                    · rw [if_pos hf] at hl
                      dsimp only at hl
                      obtain ⟨p1, p2⟩ := dput_ok ek2 dz hka qa6
                      have hlen : kvs.length = a.1.length := by have := congrArg List.length hka; simpa using this.symm
                      have := fits_le hf
                      exact ⟨kvs, kk, keyOf_V ek2 dy6, hD6, by omega, m, Nat.lt_succ_self m, G6, S6, putK kvs kk w, dput a.1 a.2 y z, step_free s16 hD, hid_rel rs6 hh6 rfl, hh6, upd_same, p1, p2.kp (hid_keep hh6), hl⟩
                    · rw [if_neg hf] at hl; exact hl.elim
            · rw [if_neg hb] at hl ⊢
              exact ⟨m, Nat.lt_succ_self m, G4, S4, kvs, a, s14, rs4, hh4, hD4, hka, qa4, hl⟩
theorem ce_dc {kx vx tg iter : Expr} {ifs : List Expr} {scope : Scope} (own : List (Str × Nat)) {sl : List Nat} {mi : EI} {g : Tg} {t : T} {ek ev : E} (hc : X.calm = true) (hN : X.N.Nodup) (hi : CI X tg iter mi) (ok : BlkOk X.N X.env.scope scope own) (hsl : ∀ i ∈ sl, i ∈ own.map (·.2))
    (hg : ∀ s H C cl fp, CG (cxB X scope s H C cl fp) tg sl g) (ht : ∀ s H C cl fp, CTs (cxB X scope s H C cl fp) ifs t) (hk : ∀ s H C cl fp, CE (cxB X scope s H C cl fp) kx ek) (he : ∀ s H C cl fp, CE (cxB X scope s H C cl fp) vx ev) (hs : ∀ x, foldedSetIterable iter X.env x = pure x := by intro _; rfl) :
    CE X (.DictComp kx vx [⟨tg, iter, ifs, 0⟩] scope pos) (eDc (own.map (·.2)) mi g t ek ev) := fun W tk =>
  PE.imp (pe_dc (g := tGv (wd X) tg sl g) (tt := tTv (wd X) t W0) (tk := tEv (wd X) ek W0) (tv := tEv (wd X) ev W0) hc hN (hi W tk) ok (fun s H C cl fp => hg s H C cl fp) (fun s H C cl fp => ht s H C cl fp W0 takes0) (fun s H C cl fp => hk s H C cl fp W0 takes0) (fun s H C cl fp => he s H C cl fp W0 takes0) hs) fun σ H Q h => dc_reads hsl h

/-! ### {k: v, ..} -/
abbrev Ps := Env → Sto → R (List (D × D))
def relP (U : Wd) : Gh → Hp → List (D × D) → List (V × V) → Prop := fun G H ps vs => DVs U G H (ps.map (·.1)) (vs.map (·.1)) ∧ DVs U G H (ps.map (·.2)) (vs.map (·.2))
def tPv (U : Wd) (m : Ps) (W : WX) (σ : L2.St) (H : Hp) (Q : List (V × V) → Hp → Prop) : Prop := ∃ G ρ S, RelS U G S H ∧ RelE U G ρ σ H ∧ Go (relP U) U W σ G H (m ρ S) Q
def CPs (X : Cx) (p : Pos) (keys : List (Option Expr)) (values : List Expr) (m : Ps) : Prop := ∀ W, Takes X W → ∃ trs, PPs X p keys values trs ∧ ∀ σ H Q, tPv (wd X) m W σ H Q → tPairs trs σ H Q
def pNil : Ps := fun _ S => .ok [] S
def pCons (mk mv : E) (ms : Ps) : Ps := fun ρ S => (mk ρ S).bind fun a S => (mv ρ S).bind fun b S => (ms ρ S).bind fun ps S => .ok ((a, b) :: ps) S
theorem cps_nil : CPs X pos [] [] pNil := fun W tk => ⟨[], pps_nil, fun σ H Q ⟨G, ρ, S, rs, re, h⟩ => Go.ret (v := []) h rs ⟨rfl, rfl⟩⟩
theorem cps_cons {k v : Expr} {ks : List (Option Expr)} {vs : List Expr} {mk mv : E} {ms : Ps} (hk : CE X k mk) (hv : CE X v mv) (hr : CPs X pos ks vs ms) : CPs X pos (some k :: ks) (v :: vs) (pCons mk mv ms) := fun W tk => by
  obtain ⟨trs, h1, h2⟩ := hr W tk
  refine ⟨_, pps_cons (hk W tk) (hv W tk) h1, fun σ H Q ⟨G, ρ, S, rs, re, h⟩ => ?_⟩
  obtain ⟨G0, ρ0, S0, a, b, c⟩ := tEv.bind rs re h
  refine ⟨G0, ρ0, S0, a, b, Go.mono c fun x H1 ⟨G1, d1, S1, s1, rs1, re1, dv1, g1⟩ => ?_⟩
  obtain ⟨G0, ρ0, S0, a, b, c⟩ := tEv.bind rs1 re1 g1
  refine ⟨G0, ρ0, S0, a, b, Go.mono c fun y H2 ⟨G2, d2, S2, s2, rs2, re2, dv2, g2⟩ => ?_⟩
  refine h2 σ H2 _ ⟨G2, ρ, S2, rs2, re2, Go.mono (Go.bind (rel := relP (wd X)) g2) fun ps H3 ⟨G3, ds, S3, s3, rs3, q3, g3⟩ => ?_⟩
  exact Go.ret g3 rs3 ⟨⟨_, _, rfl, dv1.mono (s2.trans s3), q3.1⟩, ⟨_, _, rfl, dv2.mono s3, q3.2⟩⟩
def dctG : List (D × D) → List D × List D → Option (List D × List D)
  | [], a => some a
  | p :: ps, a => match dcPut a p.1 p.2 with
    | some a' => dctG ps a'
    | none => none
def eDisp (m : Ps) : E := fun ρ S => (m ρ S).bind fun ps S => match dctG ps ([], []) with
  | some a => if Nat.ble ps.length 15 = true then .ok (.dct a.1 a.2) S else .bad
  | none => .bad
theorem dctG_ok {U : Wd} {G : Gh} {H : Hp} : ∀ {ps : List (D × D)} {vs : List (V × V)} {a a' : List D × List D} {kvs : List (Key × V)}, relP U G H ps vs → a.1.map keyOf = kvs.map (fun p => some p.1) → DVs U G H a.2 (kvs.map (·.2)) → dctG ps a = some a' →
    ∃ more : List (Key × V), vs = more.map (fun kv => (kV kv.1, kv.2)) ∧ a'.1.map keyOf = (mergeK kvs more).map (fun p => some p.1) ∧ DVs U G H a'.2 ((mergeK kvs more).map (·.2)) ∧ more.length = ps.length
  | [], vs, a, a', kvs, r, h1, h2, h => by
    cases h
    have : vs = [] := by
      have z : vs.map (·.1) = [] := r.1
      simpa using z
    subst this
    exact ⟨[], rfl, h1, h2, rfl⟩
  | (y, z) :: ps, vs, a, a', kvs, r, h1, h2, h => by
    obtain ⟨⟨v1, r1, e1, q1, t1⟩, ⟨v2, r2, e2, q2, t2⟩⟩ := r
    cases vs with
    | nil => cases e1
    | cons p vs =>
      have e1 : p.1 :: vs.map (·.1) = v1 :: r1 := e1
      have e2 : p.2 :: vs.map (·.2) = v2 :: r2 := e2
      injection e1 with e1 e1'
      injection e2 with e2 e2'
      subst e1 e1' e2 e2'
      unfold dctG dcPut at h
      dsimp only at h
      cases ek : keyOf y with
      | none => rw [ek] at h; cases h
      | some kk =>
        rw [ek] at h
        dsimp only at h
        by_cases hf : fits (a.1.length + 1) = true
        · rw [if_pos hf] at h
          obtain ⟨p1, p2⟩ := dput_ok ek q2 h1 h2
          obtain ⟨more, a1, a2, a3, a4⟩ := dctG_ok (ps := ps) (vs := vs) (a := dput a.1 a.2 y z) (kvs := putK kvs kk p.2) ⟨t1, t2⟩ p1 p2 h
          refine ⟨(kk, p.2) :: more, ?_, a2, a3, by rw [List.length_cons, a4]; rfl⟩
          rw [a1, List.map_cons]
          have := keyOf_V ek q1
          rw [← this]
        · rw [if_neg hf] at h; cases h
theorem ce_disp {keys : List (Option Expr)} {values : List Expr} {m : Ps} (h : CPs X pos keys values m) (hall : keys.all (·.isSome) = true := by rfl) (hl : keys.length = values.length := by rfl) (h0 : keys ≠ [] := by exact List.cons_ne_nil _ _) (h15 : keys.length ≤ 15 := by decide) : CE X (.Dict keys values pos) (eDisp m) := fun W tk => by
  obtain ⟨trs, h1, h2⟩ := h W tk
  refine PE.imp (pe_disp h1 hall hl h0 h15) fun σ H Q ⟨G, ρ, S, rs, re, h⟩ => fun D hD => ?_
  refine h2 σ _ _ ⟨G.hide D, ρ, S, hide_rel rs hD rfl, re.kp (hide_step rs hD).kp, ?_⟩
  have h0' := h
  unfold eDisp at h0'
  cases e : m ρ S with
  | bad => rw [e] at h0'; exact h0'
  | ex x S' =>
    rw [e] at h0'
    intro G' H' cls dd s' rs' xv
    have st : Step G H G' H' := (hide_step rs hD).trans s'
    refine h0' (G'.back G) H' cls dd (back_step st) (back_rel st rs') ?_
    obtain ⟨C, a1, a2, a3⟩ := xv
    exact ⟨C, a1, a2, a3.imp id fun ⟨d, fvs, b1, b2, b3, b4, b5⟩ => ⟨d, fvs, b1, b2, ((back_keep (Si := S') st).keep _ _ b2 b3).2, b4, b5.kp (back_keep (Si := S') st)⟩⟩
  | ok ps S' =>
    rw [e] at h0'
    intro G' vs H' s' rs' q
    have st : Step G H G' H' := (hide_step rs hD).trans s'
    have hh : G'.hid D := s'.hid D (.inr rfl)
    have hD' : H' D = some (.dK []) := s'.keep D _ upd_same (.inr (.inr rfl))
    have h' : GoD (wd X) W σ G H (match dctG ps ([], []) with
      | some a => if Nat.ble ps.length 15 = true then .ok (.dct a.1 a.2) S' else .bad
      | none => .bad) Q := h0'
    cases ed : dctG ps ([], []) with
    | none => rw [ed] at h'; exact h'.elim
    | some a =>
      rw [ed] at h'
      dsimp only at h'
      by_cases hb : Nat.ble ps.length 15 = true
      · rw [if_pos hb] at h'
        obtain ⟨more, a1, a2, a3, a4⟩ := dctG_ok (a := ([], [])) (kvs := []) q rfl rfl ed
        refine ⟨hD', more, a1, by rw [a4]; exact Nat.le_of_ble_eq_true hb, ?_⟩
        have st2 := step_free (o := .dK (mergeK [] more)) st hD
        have rs2 := hid_rel (o := .dK (mergeK [] more)) rs' hh rfl
        exact h' _ _ _ (back_step st2) (back_rel st2 rs2) (back_dct rs hD st2 rs2 hh upd_same a2 (a3.kp (hid_keep hh)))
      · rw [if_neg hb] at h'; exact h'.elim
end
end Z

/-! Z17: new objects of the store. -/
namespace Z
open PySem PySem.Spec PyProof PyProof.Rows L2
section
variable {X : Cx} {pos : Pos}
theorem Go.pushL {U : Wd} {W : WX} {σ : L2.St} {G : Gh} {S : Sto} {H : Hp} {ds : List D} {vs : List V} {p : Addr} {Q : VK} (g : GoD U W σ G H (.ok (.ref S.len) (S.push (.lst ds))) Q) (rs : RelS U G S H) (hp : H p = none) (q : DVs U G H ds vs) : Q (.ref p) (upd H p (.lst vs)) := by
  have st : Step G H (G.push p) (upd H p (.lst vs)) := step_push rs hp
  refine g (G.push p) (.ref p) _ st (rel_push rs hp ⟨vs, upd_same, q.mono st⟩) ⟨?_, ?_⟩
  · show S.len < G.n + 1
    rw [rs.n]; exact Nat.lt_succ_self _
  · rw [← rs.n, push_self]
/-- a list that will be changed -/
def eLstR (m : As) : E := fun ρ S => (m ρ S).bind fun as S => if fits as.length = true then .ok (.ref S.len) (S.push (.lst as)) else .bad
theorem ce_lstR {es : List Expr} {m : As} (h : CA X es m) : CE X (.List es pos) (eLstR m) := fun W tk => PE.imp (pe_lst (h W tk)) fun σ H Q ⟨G, ρ, S, rs, re, h⟩ => by
  obtain ⟨G0, ρ0, S0, a, b, c⟩ := tAv.bind rs re h
  refine ⟨G0, ρ0, S0, a, b, Go.mono c fun vs H1 ⟨G1, ds, S1, s, rs1, re1, dvs, g⟩ => ?_⟩
  split at g
  · rename_i hf
    exact ⟨by rw [dvs.length]; exact fits_le hf, fun p hp => Go.pushL g rs1 hp dvs⟩
  · exact g.elim
def intsOf : List D → Option (List Int)
  | [] => some []
  | .int b :: ds => (match intsOf ds with
    | some bs => some (b :: bs)
    | none => none)
  | _ :: _ => none
theorem intsOf_map : ∀ {ds : List D} {bs : List Int}, intsOf ds = some bs → ds = bs.map .int
  | [], bs, h => by cases h; rfl
  | d :: ds, bs, h => by
    cases d with
    | int b =>
      unfold intsOf at h
      cases z : intsOf ds with
      | none => rw [z] at h; cases h
      | some cs => rw [z] at h; cases h; rw [intsOf_map z]; rfl
    | _ => cases h
theorem intsOf_vs {U : Wd} {G : Gh} {H : Hp} : ∀ {bs : List Int} {vs : List V}, DVs U G H (bs.map .int) vs → vs = bs.map V.int
  | [], vs, q => q
  | b :: bs, vs, ⟨v, r, e, h1, h2⟩ => by
    have h1 : v = .int b := h1
    rw [e, h1, intsOf_vs h2]; rfl
/-- a law's bag -/
def eBag (m : As) : E := fun ρ S => (m ρ S).bind fun as S => match as with
  | [.int a, .int b, .int c, .lst ds] => (match intsOf ds with
    | some l => .ok (.ref S.len) (S.push (.bag ⟨a, b, c, l⟩))
    | none => .bad)
  | _ => .bad
theorem ce_bag {es : List Expr} {m : As} (h : CA X es m) : CE X (.List es pos) (eBag m) := fun W tk => PE.imp (pe_lst (h W tk)) fun σ H Q ⟨G, ρ, S, rs, re, h⟩ => by
  obtain ⟨G0, ρ0, S0, a, b, c⟩ := tAv.bind rs re h
  refine ⟨G0, ρ0, S0, a, b, Go.mono c fun vs H1 ⟨G1, ds, S1, s, rs1, re1, dvs, g⟩ => ?_⟩
  split at g
  · rename_i a b c ds
    split at g
    · rename_i l hl
      obtain ⟨v1, r1, e1, q1, v2, r2, e2, q2, v3, r3, e3, q3, v4, r4, e4, q4, q5⟩ := dvs
      have q5 : r4 = [] := q5
      have q1 : v1 = _ := q1
      have q2 : v2 = _ := q2
      have q3 : v3 = _ := q3
      obtain ⟨p4, vs4, ev4, t4, qs4⟩ := q4
      rw [intsOf_map hl] at qs4
      have ev := intsOf_vs qs4
      subst q5 e4 e3 e2 e1 q1 q2 q3 ev4 ev
      refine ⟨?_, fun p hp => ?_⟩
      · show 4 ≤ sizeLine
        rw [sizeLine_eq]; decide
      · have st : Step G1 H1 (G1.push p) (upd H1 p (.lst [.int a, .int b, .int c, .ref p4])) := step_push rs1 hp
        refine g (G1.push p) (.ref p) _ st (rel_push rs1 hp ⟨p4, upd_same, t4.mono st⟩) ⟨?_, ?_⟩
        · show S1.len < G1.n + 1
          rw [rs1.n]; exact Nat.lt_succ_self _
        · rw [← rs1.n, push_self]
    · exact g.elim
  · exact g.elim
/-- list(..), to be changed -/
def oListR : Fn := fun ds S => match ds with
  | [d] => (match rd S d with
    | .tup es => .ok (.ref S.len) (S.push (.lst es))
    | .lst es => .ok (.ref S.len) (S.push (.lst es))
    | _ => .bad)
  | _ => .bad
theorem cb_listR : CB X (.type "list") oListR := fun W σ => CallR.imp call_list_of fun xs H Q ⟨G, S, ds, rs, q, g⟩ => by
  unfold oListR at g
  split at g
  · obtain ⟨v, rfl, dv⟩ := one_of q
    split at g
    · rename_i es e
      obtain ⟨p, vs, rfl, t, q⟩ := rd_tup e dv
      exact ⟨p, vs, rfl, .inr t, fun l hl => Go.pushL g rs hl q⟩
    · rename_i es e
      obtain ⟨p, vs, rfl, t, q⟩ := rd_lst rs e dv
      exact ⟨p, vs, rfl, .inl t, fun l hl => Go.pushL g rs hl q⟩
    · exact g.elim
  · exact g.elim
/-- f() -/
def eCall0 (F : Fn) : E := fun _ S => F [] S
theorem ce_call0 {k : Nat} {f : Addr} {fd : FuncData} {F : Fn} {x : Str} {p : Pos} (hF : FS X.prog X.w X.K X.mg X.base k f fd [] F) (hr : Room k X.A) (hgd : X.A.guards = some []) (hg : Gl X x) (hm : X.mg x = some (.ref f)) (hk : PySem.W.keepIn X.K (.ref f) = true) (hb : Binds X.K fd [] [])
    (hdb : (x == ("__debug__" : Str)) = false := by decide) : CE X (.Call (.Name x p) [] [] pos) (eCall0 F) := fun W tk => PE.imp (pe_callG0 (E := WE W) hF hr hgd hg hm hk hb (fun σ => passAt tk σ) hdb) fun σ H Q ⟨G, ρ, S, rs, re, h⟩ =>
  ⟨rfl, G, S, [], rs, rfl, go_call h⟩
end

/-! ### a law's words that all laws share -/
mutual
/-- the very same -/
def beqD : D → D → Bool
  | .non, .non => true
  | .bl a, .bl b => a == b
  | .int i, .int j => decide (i = j)
  | .str x, .str y => decide (x = y)
  | .tup xs, .tup ys => beqDs xs ys
  | .lst xs, .lst ys => beqDs xs ys
  | _, _ => false
def beqDs : List D → List D → Bool
  | [], [] => true
  | x :: xs, y :: ys => beqD x y && beqDs xs ys
  | _, _ => false
end
mutual
theorem beqD_eq : ∀ {a b : D}, beqD a b = true → a = b
  | .non, b, h => by cases b <;> first | rfl | (simp [beqD] at h; done)
  | .bl x, b, h => by cases b <;> first | (simp [beqD] at h; done) | (simp [beqD] at h; subst h; rfl)
  | .int x, b, h => by cases b <;> first | (simp [beqD] at h; done) | (simp [beqD] at h; subst h; rfl)
  | .str x, b, h => by cases b <;> first | (simp [beqD] at h; done) | (simp [beqD] at h; subst h; rfl)
  | .tup xs, b, h => by
    cases b with
    | tup ys => exact congrArg D.tup (beqDs_eq (by simpa [beqD] using h))
    | _ => simp [beqD] at h
  | .lst xs, b, h => by
    cases b with
    | lst ys => exact congrArg D.lst (beqDs_eq (by simpa [beqD] using h))
    | _ => simp [beqD] at h
  | .dct _ _, b, h => by simp [beqD] at h
  | .dcn _ _, b, h => by simp [beqD] at h
  | .ref _, b, h => by simp [beqD] at h
  | .arg _, b, h => by simp [beqD] at h
theorem beqDs_eq : ∀ {a b : List D}, beqDs a b = true → a = b
  | [], [], _ => rfl
  | [], _ :: _, h => by simp [beqDs] at h
  | _ :: _, [], h => by simp [beqDs] at h
  | x :: xs, y :: ys, h => by
    have h : (beqD x y && beqDs xs ys) = true := by simpa [beqDs] using h
    obtain ⟨h1, h2⟩ := Bool.and_eq_true_iff.mp h
    rw [beqD_eq h1, beqDs_eq h2]
end
mutual
theorem eqv_refl : ∀ (d : D) (n : Nat), shp n d = true → eqv d d = true
  | .non, _, _ => rfl
  | .bl b, _, _ => by simp [eqv]
  | .int i, _, _ => by simp [eqv]
  | .str s, _, _ => by simp [eqv]
  | .tup ds, n, h => by rw [eqv]; exact eqvs_refl ds n (by simpa [shp] using h)
  | .lst ds, n, h => by rw [eqv]; exact eqvs_refl ds n (by simpa [shp] using h)
  | .dct _ _, n, h => by simp [shp] at h
  | .dcn _ _, n, h => by simp [shp] at h
  | .ref _, n, h => by simp [shp] at h
  | .arg _, n, h => by simp [shp] at h
theorem eqvs_refl : ∀ (ds : List D) (n : Nat), shps n ds = true → eqvs ds ds = true
  | [], _, _ => rfl
  | d :: ds, 0, h => by simp [shps] at h
  | d :: ds, n + 1, h => by
    have h : (shp n d && shps (n + 1) ds) = true := by simpa [shps] using h
    obtain ⟨h1, h2⟩ := Bool.and_eq_true_iff.mp h
    rw [eqvs, eqv_refl d n h1, eqvs_refl ds (n + 1) h2]; rfl
end
def okW (d : D) : Bool := shp 60 d && Nat.ble (wt d) 16777216
theorem okW_iff {d : D} (h : okW d = true) : shp 60 d = true ∧ Nat.ble (wt d) 16777216 = true := Bool.and_eq_true_iff.mp h
theorem wt_atom {d : D} (h : okW d = true) : shp 60 d = true := (okW_iff h).1
/-- repr(a) == repr(b) and a == b, without the texts -/
def alike : Fn := fun ds S => match ds with
  | [a, b] => if okW (rd S a) = true ∧ okW (rd S b) = true then (if beqD (rd S a) (rd S b) = true then .ok (.bl true) S else if eqv (rd S a) (rd S b) = true then .bad else .ok (.bl false) S) else .bad
  | _ => .bad
/-- as it is written -/
def alikeC : C := sRet (eAn (eOp oEq (eB oRepr (aCons (eVar 0) aNil)) (eB oRepr (aCons (eVar 1) aNil))) (eOp oEq (eVar 0) (eVar 1)))
theorem oEq_gen {a b : D} {S : Sto} (ha : shp 60 (rd S a) = true) (hb : shp 60 (rd S b) = true) : oEq a b S = .ok (.bl (eqv (rd S a) (rd S b))) S := by
  unfold oEq
  split
  · show _ = R.ok (D.bl (eqv (.int _) (.int _))) S
    simp [eqv]
  · show _ = R.ok (D.bl (eqv (.str _) (.str _))) S
    simp [eqv]
  · rw [if_pos ⟨ha, hb⟩]
theorem alike_ok (ds : List D) (S : Sto) : alike ds S = .bad ∨ alike ds S = fnS 2 2 alikeC ds S := by
  unfold alike
  split
  · rename_i a b
    split
    · rename_i h
      obtain ⟨a1, a2⟩ := okW_iff h.1
      obtain ⟨b1, b2⟩ := okW_iff h.2
      have ra : oRepr [a] S = .ok (.str (repL (rd S a))) S := if_pos ⟨a1, a2⟩
      have rb : oRepr [b] S = .ok (.str (repL (rd S b))) S := if_pos ⟨b1, b2⟩
      have q : alikeC (env0 2 2 [a, b]) S = .rt (.bl (decide (repL (rd S a) = repL (rd S b)) && eqv (rd S a) (rd S b))) S := by
        have e0 : eOp oEq (eB oRepr (aCons (eVar 0) aNil)) (eB oRepr (aCons (eVar 1) aNil)) (env0 2 2 [a, b]) S = .ok (.bl (decide (repL (rd S a) = repL (rd S b)))) S := by
          have ea : eB oRepr (aCons (eVar 0) aNil) (env0 2 2 [a, b]) S = .ok (.str (repL (rd S a))) S := ra
          have eb : eB oRepr (aCons (eVar 1) aNil) (env0 2 2 [a, b]) S = .ok (.str (repL (rd S b))) S := rb
          unfold eOp
          rw [ea]
          unfold R.bind
          dsimp only
          rw [eb]
          rfl
        have e1 : eOp oEq (eVar 0) (eVar 1) (env0 2 2 [a, b]) S = .ok (.bl (eqv (rd S a) (rd S b))) S := (show eOp oEq (eVar 0) (eVar 1) (env0 2 2 [a, b]) S = oEq a b S from rfl).trans (oEq_gen a1 b1)
        unfold alikeC sRet eAn
        rw [e0]
        unfold R.bind R.toS
        dsimp only
        rw [e1]
        by_cases e : repL (rd S a) = repL (rd S b)
        · rw [decide_eq_true e]; rfl
        · rw [decide_eq_false e]; rfl
      have e2 : fnS 2 2 alikeC [a, b] S = .ok (.bl (decide (repL (rd S a) = repL (rd S b)) && eqv (rd S a) (rd S b))) S := by unfold fnS; rw [q]
      rw [e2]
      by_cases hb : beqD (rd S a) (rd S b) = true
      · right
        rw [if_pos hb, ← beqD_eq hb, decide_eq_true rfl, eqv_refl _ _ a1]; rfl
      · rw [if_neg hb]
        by_cases he : eqv (rd S a) (rd S b) = true
        · rw [if_pos he]; exact .inl rfl
        · right
          rw [if_neg he, Bool.eq_false_iff.mpr he, Bool.and_false]
    · exact .inl rfl
  · exact .inl rfl
end Z

/-! ZH: defs by name. -/
namespace Z
open PySem PySem.Spec PyProof PyProof.Rows L2
structure Fs (P : Program) (w : World) (K : PySem.W.Frag) (mg : Str → Option Value) (base : Heap) (k : Nat) (x : Str) (ps : List Str) (F : Fn) : Prop where
  ex : ∃ (f : Addr) (fd : FuncData), FS P w K mg base k f fd ps F ∧ mg x = some (.ref f) ∧ PySem.W.keepIn K (.ref f) = true ∧ Binds K fd ps [] ∧ ∃ oc od osl, K.lookup f = some ⟨oc, od, .func fd, osl⟩
theorem fd_lk {K : PySem.W.Frag} {x qual : Str} {params : Arguments} {bd : List Stmt} {scope : Scope} {f : Addr} {fd : FuncData} (F : FunD K x qual params bd scope [] [] f fd) : ∃ oc od osl, K.lookup f = some ⟨oc, od, .func fd, osl⟩ := by
  obtain ⟨oc, od, _, _, _, _, _, _, _, osl, _, lk, _⟩ := F.ex
  exact ⟨oc, od, osl, lk⟩
section
variable {P : Program} {w : World} {K : PySem.W.Frag} {mg : Str → Option Value} {base : Heap} {j k : Nat} {x : Str} {ps : List Str} {F F' : Fn}
theorem Fs.mono (h : Fs P w K mg base j x ps F) (l : j ≤ k) : Fs P w K mg base k x ps F := let ⟨f, fd, a, b⟩ := h.ex; ⟨f, fd, a.mono l, b⟩
theorem Fs.A (h : Fs P w K mg base k x ps F) : Fs P w K mg base k x ps (fnA F) := let ⟨f, fd, a, b⟩ := h.ex; ⟨f, fd, a.A, b⟩
theorem Fs.B (h : Fs P w K mg base k x ps F) : Fs P w K mg base k x ps (fnB F) := let ⟨f, fd, a, b⟩ := h.ex; ⟨f, fd, a.B, b⟩
theorem Fs.imp (h : Fs P w K mg base k x ps F) (i : ∀ ds S, F' ds S = .bad ∨ F' ds S = F ds S) : Fs P w K mg base k x ps F' := let ⟨f, fd, a, b⟩ := h.ex; ⟨f, fd, a.imp i, b⟩
/-- what never answers -/
def fn0 : Fn := fun _ _ => .bad
theorem FS.none {f : Addr} {fd : FuncData} : FS P w K mg base k f fd ps fn0 := ⟨fun vs H Q E ⟨_, G, S, ds, rs, q, g⟩ => g.elim, fun A outer s H args us vs Q E hr hg he hb hv ⟨_, G, S, ds, rs, q, g⟩ => g.elim⟩
theorem fs_mk {qual : Str} {params : Arguments} {bd : List Stmt} {scope : Scope} {f : Addr} {fd : FuncData} {N : List Str} {body : C} (F : FunD K x qual params bd scope [] [] f fd) (hm : mg x = some (.ref f)) (hbind : Binds K fd ps []) (Sc : FnScope N ps scope)
    (hb : ∀ (cdv : Value) (A : Around) (outer : List PySem.Env) (s : Shared) (H : Hp) (E : XK), StdS (cxF P w K mg base N qual scope f cdv A outer s H E) k → CSs (cxF P w K mg base N qual scope f cdv A outer s H E) bd body) :
    Fs P w K mg base (k + 1) x ps (fnS ps.length N.length body) := ⟨f, fd, fs_of F Sc hb, hm, F.kp, hbind, fd_lk F⟩
theorem fs_none {qual : Str} {params : Arguments} {bd : List Stmt} {scope : Scope} {f : Addr} {fd : FuncData} (F : FunD K x qual params bd scope [] [] f fd) (hm : mg x = some (.ref f)) (hbind : Binds K fd ps []) : Fs P w K mg base k x ps fn0 := ⟨f, fd, FS.none, hm, F.kp, hbind, fd_lk F⟩
end
section
variable {X : Cx} {pos : Pos} {j k : Nat}
theorem ce_fn {x : Str} {ps : List Str} {F : Fn} {p : Pos} {e : Expr} {es : List Expr} {ma : As} (h : Fs X.prog X.w X.K X.mg X.base j x ps F) (st : Std X k) (hjk : j ≤ k) (hg : Gl X x) (ha : CA X (e :: es) ma) (hdb : (x == ("__debug__" : Str)) = false := by decide) (he : starEach (e :: es) X.env = (false, eval e X.env) :: starEach es X.env := by rfl) (hpl : (backTo pos (starEach es X.env)).any (·.1) = false := by rfl) :
    CE X (.Call (.Name x p) (e :: es) [] pos) (eCall ps.length F ma) := by
  obtain ⟨f, fd, a, b, c, d, _⟩ := h.ex
  exact ce_call a (st.hr.mono hjk) st.hg hg b c d ha hdb he hpl
theorem ce_fn0 {x : Str} {F : Fn} {p : Pos} (h : Fs X.prog X.w X.K X.mg X.base j x [] F) (st : Std X k) (hjk : j ≤ k) (hg : Gl X x) (hdb : (x == ("__debug__" : Str)) = false := by decide) : CE X (.Call (.Name x p) [] [] pos) (eCall0 F) := by
  obtain ⟨f, fd, a, b, c, d, _⟩ := h.ex
  exact ce_call0 a (st.hr.mono hjk) st.hg hg b c d hdb
/-- the block of a comprehension -/
theorem Std.blk (st : Std X k) {scope : Scope} {s : Shared} {H : Hp} {C : Addr} {cl : List (Str × Addr)} {fp : List Addr} : Std (cxB X scope s H C cl fp) k := ⟨st.hr, st.hc, st.hN, st.hg⟩
theorem bt_len : bootBuiltins "len" = some (.builtin "len") := by decide +kernel
theorem bt_abs : bootBuiltins "abs" = some (.builtin "abs") := by decide +kernel
theorem bt_min : bootBuiltins "min" = some (.builtin "min") := by decide +kernel
theorem bt_max : bootBuiltins "max" = some (.builtin "max") := by decide +kernel
theorem bt_all : bootBuiltins "all" = some (.builtin "all") := by decide +kernel
theorem bt_any : bootBuiltins "any" = some (.builtin "any") := by decide +kernel
theorem bt_repr : bootBuiltins "repr" = some (.builtin "repr") := by decide +kernel
theorem bt_sorted : bootBuiltins "sorted" = some (.builtin "sorted") := by decide +kernel
theorem bt_int : bootBuiltins "int" = some (.type "int") := by decide +kernel
theorem bt_tuple : bootBuiltins "tuple" = some (.type "tuple") := by decide +kernel
theorem bt_list : bootBuiltins "list" = some (.type "list") := by decide +kernel
theorem bt_str : bootBuiltins "str" = some (.type "str") := by decide +kernel
theorem bt_dict : bootBuiltins "dict" = some (.type "dict") := by decide +kernel
end
/-- the law's promise -/
theorem law_sp {U : Wd} {F : Fn} {n : Nat} (h : ∀ ns : List Int, ns.length ≤ n → ∃ S, F [.arg ns] Sto.nil = .ok (.bl true) S) (H : Hp) (a : Addr) (ns : List Int) (hl : ns.length ≤ n) (hS : SqL U.K H a (ns.map V.int)) : spV U 1 F [.ref a] H (fun v _ => v = .bl true) fun _ _ _ => False := by
  obtain ⟨S, e⟩ := h ns hl
  refine ⟨rfl, ⟨0, fun _ => 0, fun _ => False⟩, Sto.nil, [.arg ns], relS_nil rfl (fun a z => z.elim), ⟨.ref a, [], rfl, ⟨a, rfl, ?_⟩, rfl⟩, ?_⟩
  · rcases hS with hS | hS
    · exact .inl ⟨hS, fun i hi => absurd hi (Nat.not_lt_zero i), fun z => z⟩
    · exact .inr hS
  · rw [e]
    exact fun G' v H' _ _ q => q
/-- what walkG asks -/
theorem law_end {P : Program} {w : World} {K : PySem.W.Frag} {mg : Str → Option Value} {h : Heap} {k n : Nat} {fa : Addr} {x : Str} {F : Fn} (KX : K.In h) (hx : mg x = some (.ref fa)) (hF : ∀ base, Fs P w K mg base k x ["script"] F) (law : ∀ ns : List Int, ns.length ≤ n → ∃ S, F [.arg ns] Sto.nil = .ok (.bl true) S) :
    ∃ (fd : FuncData) (sp : Sp), K.In h ∧ (∀ (s : Shared) (u : Value), K.In s.heap → BindsTo s fd ⟨[u], []⟩ [("script", u)]) ∧ (∀ (H : Hp) (a : Addr) (ns : List Int), ns.length ≤ n → Only H → SqL K H a (ns.map V.int) → sp [.ref a] H (fun v _ => v = .bl true) fun _ _ _ => False) ∧ ∀ base : Heap, K.In base → base.Ns mainGlobals mg → FnG P w K mg base (L2.CX P w) k fa fd ["script"] sp := by
  obtain ⟨f, fd, a, b, c, d, oc, od, osl, lk⟩ := (hF h).ex
  have ef := b.symm.trans hx
  cases ef
  refine ⟨fd, spV ⟨P, w, K, mg⟩ 1 F, KX, fun s u ks => ?_, fun H a ns hl _ hS => law_sp (U := ⟨P, w, K, mg⟩) law H a ns hl hS, fun base _ _ => ?_⟩
  · have z := d s [u] ks rfl
    rw [List.append_nil] at z
    exact z
  · obtain ⟨f2, fd2, a2, b2, c2, d2, oc2, od2, osl2, lk2⟩ := (hF base).ex
    have ef := b2.symm.trans hx
    cases ef
    rw [lk] at lk2
    cases lk2
    exact a2
end Z

/-! ZP: the mirrors worked out: what serves every law. -/
namespace Z
open PySem PySem.Spec PyProof PyProof.Rows L2
theorem fits_0 : fits 0 = true := rfl
theorem fits_1 : fits 1 = true := rfl
theorem fits_2 : fits 2 = true := rfl
theorem fits_3 : fits 3 = true := rfl
theorem fits_4 : fits 4 = true := rfl
theorem fnA_ok {F : Fn} {ds : List D} {S S1 : Sto} {d : D} (h : nrfs ds = true) (e : F ds Sto.nil = .ok d S1) (hd : nrf d = true) : fnA F ds S = .ok d S := by
  unfold fnA
  rw [if_pos h, e]
  dsimp only
  rw [if_pos hd, if_pos hd]
/-- the result with what it names filled in -/
theorem fnA_fz {F : Fn} {ds : List D} {S S1 : Sto} {d d' : D} (h : nrfs ds = true) (e : F ds Sto.nil = .ok d S1) (h1 : nrf d = false) (h2 : fz 6 S1 d = d') (hd : nrf d' = true) : fnA F ds S = .ok d' S := by
  unfold fnA
  rw [if_pos h, e]
  dsimp only
  rw [h1, if_neg (show ¬ (false = true) from Bool.false_ne_true), h2, if_pos hd]
theorem lcS_fm {turn : D → Sto → R (Option D)} {S : Sto} {f : D → Option D} : ∀ {ds : List D}, (∀ d ∈ ds, turn d S = .ok (f d) S) → lcS turn ds S = .ok (ds.filterMap f) S
  | [], _ => rfl
  | d :: ds, h => by
    unfold lcS
    rw [h d List.mem_cons_self]
    have ih := lcS_fm (turn := turn) (S := S) (f := f) (ds := ds) fun e he => h e (List.mem_cons_of_mem _ he)
    cases e : f d with
    | none => dsimp only; rw [ih, List.filterMap_cons_none e]
    | some y => dsimp only; rw [ih, List.filterMap_cons_some e]
/-- a whole number that is no truth -/
def isI : D → Bool
  | .int _ => true
  | _ => false
def isC : D → Bool
  | .int i => decide (0 ≤ i)
  | _ => false
/-- what may come as any value -/
def val (d : D) : Bool := nrf d && shp 50 d
theorem val_nrf {d : D} (h : val d = true) : nrf d = true := (Bool.and_eq_true_iff.mp h).1
theorem val_shp {d : D} (h : val d = true) : shp 50 d = true := (Bool.and_eq_true_iff.mp h).2
theorem rd_val {S : Sto} {d : D} (h : nrf d = true) : rd S d = d := by
  cases d <;> first | rfl | (simp [nrf] at h)
theorem tyB_val {t : Tyn} {d : D} (h : val d = true) : ∃ b, tyB t d = some b := by
  cases d <;> first | exact ⟨_, rfl⟩ | (have := val_shp h; simp [shp] at this)
theorem z_gt {i j : Int} {S : Sto} : oCmp .Gt (.int i) (.int j) S = .ok (.bl (decide (j < i))) S := by
  show R.ok (D.bl (opz .Gt (cmpI i j))) S = _
  congr 2
  unfold cmpI
  by_cases h : i < j
  · rw [if_pos h]; exact (decide_eq_false (by omega)).symm
  · rw [if_neg h]
    by_cases k : j < i
    · rw [if_pos k]; exact (decide_eq_true k).symm
    · rw [if_neg k]; exact (decide_eq_false k).symm
theorem z_lt {i j : Int} {S : Sto} : oCmp .Lt (.int i) (.int j) S = .ok (.bl (decide (i < j))) S := by
  show R.ok (D.bl (opz .Lt (cmpI i j))) S = _
  congr 2
  unfold cmpI
  by_cases h : i < j
  · rw [if_pos h]; exact (decide_eq_true h).symm
  · rw [if_neg h]
    by_cases k : j < i
    · rw [if_pos k]; exact (decide_eq_false h).symm
    · rw [if_neg k]; exact (decide_eq_false h).symm
theorem z_ge {i j : Int} {S : Sto} : oCmp .GtE (.int i) (.int j) S = .ok (.bl (decide (j ≤ i))) S := by
  show R.ok (D.bl (opz .GtE (cmpI i j))) S = _
  congr 2
  unfold cmpI
  by_cases h : i < j
  · rw [if_pos h]; exact (decide_eq_false (by omega)).symm
  · rw [if_neg h]
    by_cases k : j < i
    · rw [if_pos k]; exact (decide_eq_true (by omega)).symm
    · rw [if_neg k]; exact (decide_eq_true (by omega)).symm
theorem z_le {i j : Int} {S : Sto} : oCmp .LtE (.int i) (.int j) S = .ok (.bl (decide (i ≤ j))) S := by
  show R.ok (D.bl (opz .LtE (cmpI i j))) S = _
  congr 2
  unfold cmpI
  by_cases h : i < j
  · rw [if_pos h]; exact (decide_eq_true (by omega)).symm
  · rw [if_neg h]
    by_cases k : j < i
    · rw [if_pos k]; exact (decide_eq_false (by omega)).symm
    · rw [if_neg k]; exact (decide_eq_true (by omega)).symm
theorem z_eqi {i j : Int} {S : Sto} : oEq (.int i) (.int j) S = .ok (.bl (decide (i = j))) S := rfl
theorem z_nei {i j : Int} {S : Sto} : oNe (.int i) (.int j) S = .ok (.bl (!decide (i = j))) S := rfl
theorem z_eqs {i j : List Nat} {S : Sto} : oEq (.str i) (.str j) S = .ok (.bl (decide (i = j))) S := rfl
theorem z_nes {i j : List Nat} {S : Sto} : oNe (.str i) (.str j) S = .ok (.bl (!decide (i = j))) S := rfl
theorem atI_nat {α : Type} {l : List α} {i : Int} {a : α} (h0 : 0 ≤ i) (h : l[i.toNat]? = some a) : atI l i = some a := by
  have hl := (List.getElem?_eq_some_iff.mp h).1
  unfold atI ixN
  rw [if_pos h0, if_pos (by omega)]
  exact h
theorem z_ixT {ds : List D} {i : Int} {d : D} {S : Sto} (h0 : 0 ≤ i) (h : ds[i.toNat]? = some d) : oIx (.tup ds) (.int i) S = .ok d S := by
  show (match atI ds i with | some d => R.ok d S | none => .bad) = _
  rw [atI_nat h0 h]
theorem z_ixL {ds : List D} {i : Int} {d : D} {S : Sto} (h0 : 0 ≤ i) (h : ds[i.toNat]? = some d) : oIx (.lst ds) (.int i) S = .ok d S := by
  show (match atI ds i with | some d => R.ok d S | none => .bad) = _
  rw [atI_nat h0 h]
theorem z_t0 {a : D} {r : List D} {S : Sto} : oIx (.tup (a :: r)) (.int 0) S = .ok a S := z_ixT (Int.le_refl _) rfl
theorem z_t1 {a b : D} {r : List D} {S : Sto} : oIx (.tup (a :: b :: r)) (.int 1) S = .ok b S := z_ixT (by decide) rfl
theorem z_t2 {a b c : D} {r : List D} {S : Sto} : oIx (.tup (a :: b :: c :: r)) (.int 2) S = .ok c S := z_ixT (by decide) rfl
theorem z_l0 {a : D} {r : List D} {S : Sto} : oIx (.lst (a :: r)) (.int 0) S = .ok a S := z_ixL (Int.le_refl _) rfl
theorem z_l1 {a b : D} {r : List D} {S : Sto} : oIx (.lst (a :: b :: r)) (.int 1) S = .ok b S := z_ixL (by decide) rfl
theorem z_inT {a : D} {ds : List D} {S : Sto} (ha : nrf a = true) (h1 : shp 60 a = true) (h2 : shp 60 (.tup ds) = true) : oIn a (.tup ds) S = .ok (.bl (ds.any fun z => eqv z a)) S := by
  have e : inD a (.tup ds) S = some (ds.any fun z => eqv z a) := by
    show (if shp 60 (rd S a) = true ∧ shp 60 (.tup ds) = true then some (ds.any fun z => eqv z (rd S a)) else none) = _
    rw [rd_val ha, if_pos ⟨h1, h2⟩]
  unfold oIn
  rw [e]
theorem z_inL {a : D} {ds : List D} {S : Sto} (ha : nrf a = true) (h1 : shp 60 a = true) (h2 : shp 60 (.lst ds) = true) : oIn a (.lst ds) S = .ok (.bl (ds.any fun z => eqv z a)) S := by
  have e : inD a (.lst ds) S = some (ds.any fun z => eqv z a) := by
    show (if shp 60 (rd S a) = true ∧ shp 60 (.lst ds) = true then some (ds.any fun z => eqv z (rd S a)) else none) = _
    rw [rd_val ha, if_pos ⟨h1, h2⟩]
  unfold oIn
  rw [e]
theorem z_notInT {a : D} {ds : List D} {S : Sto} (ha : nrf a = true) (h1 : shp 60 a = true) (h2 : shp 60 (.tup ds) = true) : oNotIn a (.tup ds) S = .ok (.bl (!(ds.any fun z => eqv z a))) S := by
  have e : inD a (.tup ds) S = some (ds.any fun z => eqv z a) := by
    show (if shp 60 (rd S a) = true ∧ shp 60 (.tup ds) = true then some (ds.any fun z => eqv z (rd S a)) else none) = _
    rw [rd_val ha, if_pos ⟨h1, h2⟩]
  unfold oNotIn
  rw [e]
theorem z_notInL {a : D} {ds : List D} {S : Sto} (ha : nrf a = true) (h1 : shp 60 a = true) (h2 : shp 60 (.lst ds) = true) : oNotIn a (.lst ds) S = .ok (.bl (!(ds.any fun z => eqv z a))) S := by
  have e : inD a (.lst ds) S = some (ds.any fun z => eqv z a) := by
    show (if shp 60 (rd S a) = true ∧ shp 60 (.lst ds) = true then some (ds.any fun z => eqv z (rd S a)) else none) = _
    rw [rd_val ha, if_pos ⟨h1, h2⟩]
  unfold oNotIn
  rw [e]
/-! shapes are kept by more depth -/
mutual
theorem shp_mono : ∀ (d : D) {m n : Nat}, m ≤ n → shp m d = true → shp n d = true
  | .non, _, _, _, _ => rfl
  | .bl _, _, _, _, _ => rfl
  | .int _, _, _, _, _ => rfl
  | .str _, _, _, _, h => by simpa [shp] using h
  | .tup ds, m, n, l, h => by rw [shp]; exact shps_mono ds l (by simpa [shp] using h)
  | .lst ds, m, n, l, h => by rw [shp]; exact shps_mono ds l (by simpa [shp] using h)
  | .dct _ _, _, _, _, h => by simp [shp] at h
  | .dcn _ _, _, _, _, h => by simp [shp] at h
  | .ref _, _, _, _, h => by simp [shp] at h
  | .arg _, _, _, _, h => by simp [shp] at h
theorem shps_mono : ∀ (ds : List D) {m n : Nat}, m ≤ n → shps m ds = true → shps n ds = true
  | ds, 0, _, _, h => by simp [shps] at h
  | [], m + 1, 0, l, _ => by omega
  | [], m + 1, n + 1, _, _ => by simp [shps]
  | d :: ds, m + 1, 0, l, _ => by omega
  | d :: ds, m + 1, n + 1, l, h => by
    have h : (shp m d && shps (m + 1) ds) = true := by simpa [shps] using h
    obtain ⟨h1, h2⟩ := Bool.and_eq_true_iff.mp h
    rw [shps, shp_mono d (by omega) h1, shps_mono ds l h2]; rfl
end
theorem val_60 {d : D} (h : val d = true) : shp 60 d = true := shp_mono d (by decide) (val_shp h)
theorem eqv_strs {a b : List Nat} : eqv (.str a) (.str b) = decide (a = b) := by simp [eqv]
theorem eqv_ints {a b : Int} : eqv (.int a) (.int b) = decide (a = b) := by simp [eqv]
theorem cut_from {α : Type} {l : List α} {k : Nat} (h : k ≤ l.length) : cut l (some k) none = l.drop k := by
  unfold cut
  have e1 : HT.sIx l.length 0 (some (k : Int)) = k := by rw [HT.sIx_nat]; omega
  have e2 : HT.sIx l.length l.length none = l.length := by unfold HT.sIx; rfl
  rw [e1, e2]
  rw [List.take_of_length_le (by rw [List.length_drop]; omega)]
theorem cut_to {α : Type} {l : List α} {k : Nat} (h : k ≤ l.length) : cut l none (some k) = l.take k := by
  unfold cut
  have e1 : HT.sIx l.length l.length (some (k : Int)) = k := by rw [HT.sIx_nat]; omega
  have e2 : HT.sIx l.length 0 none = 0 := by unfold HT.sIx; rfl
  rw [e1, e2]
  simp
theorem z_sl1 {a : D} {r : List D} {S : Sto} : oSl (.tup (a :: r)) (some 1) none S = .ok (.tup r) S := by
  show R.ok (D.tup (cut (a :: r) (some ((1 : Nat) : Int)) none)) S = _
  rw [cut_from (by simp)]
  rfl
/-- a comprehension over values that stand still -/
theorem eLc_st {vs : List Nat} {mi : EI} {g : Tg} {t : T} {e : E} {ρ : Env} {S : Sto} {ds ys : List D} {f : D → Option D} (hi : mi ρ S = .ok (.st ds) S) (hf : ∀ d ∈ ds, lcT g t e (wipeE ρ vs) d S = .ok (f d) S) (hy : ds.filterMap f = ys) (hl : fits ys.length = true) : eLc vs mi g t e ρ S = .ok (.lst ys) S := by
  have e1 : lcRun (lcT g t e (wipeE ρ vs)) (.st ds) S = .ok ys S := by rw [← hy]; exact lcS_fm hf
  show ((mi ρ S).bind fun src S => _) = _
  rw [hi]
  show (match lcRun (lcT g t e (wipeE ρ vs)) (.st ds) S with | .ok ys S' => if fits ys.length = true then R.ok (D.lst ys) S' else .bad | _ => .bad) = _
  rw [e1]
  show (if fits ys.length = true then R.ok (D.lst ys) S else .bad) = _
  rw [if_pos hl]
theorem fits_of {n : Nat} (h : n ≤ 16777216) : fits n = true := Nat.ble_eq_true_of_le h
def blD (b : Bool) : D := .bl b
theorem shps_bls {n : Nat} : ∀ l : List Bool, shps (n + 1) (l.map D.bl) = true
  | [] => by simp [shps]
  | b :: l => by rw [List.map_cons, shps, shps_bls l]; simp [shp]
theorem any_bl (c : Bool) : ∀ l : List Bool, (l.map D.bl).any (fun z => eqv z (.bl c)) = l.any fun b => b == c
  | [] => rfl
  | b :: l => by rw [List.map_cons, List.any_cons, any_bl c l, List.any_cons]; simp [eqv]
/-! ### one step after another -/
theorem sq_nx {a b : C} {ρ ρ' : Env} {S S' : Sto} {r : RS} (h : a ρ S = .nx ρ' S') (k : b ρ' S' = r) : sSeq a b ρ S = r := by unfold sSeq; rw [h]; exact k
theorem sq_rt {a b : C} {ρ : Env} {S S' : Sto} {d : D} (h : a ρ S = .rt d S') : sSeq a b ρ S = .rt d S' := by unfold sSeq; rw [h]
theorem st_set {i : Nat} {m : E} {ρ : Env} {S S' : Sto} {d : D} (h : m ρ S = .ok d S') : sSet i m ρ S = .nx (ρ.set i (some d)) S' := by unfold sSet; rw [h]; rfl
theorem st_ret {m : E} {ρ : Env} {S S' : Sto} {d : D} (h : m ρ S = .ok d S') : sRet m ρ S = .rt d S' := by unfold sRet; rw [h]; rfl
theorem st_e {m : E} {ρ : Env} {S S' : Sto} {d : D} (h : m ρ S = .ok d S') : sE m ρ S = .nx ρ S' := by unfold sE; rw [h]; rfl
theorem st_ift {t : T} {a b : C} {ρ : Env} {S S' : Sto} {r : RS} (h : t ρ S = .ok true S') (k : a ρ S' = r) : sIf t a b ρ S = r := by unfold sIf; rw [h]; exact k
theorem st_iff {t : T} {a b : C} {ρ : Env} {S S' : Sto} {r : RS} (h : t ρ S = .ok false S') (k : b ρ S' = r) : sIf t a b ρ S = r := by unfold sIf; rw [h]; exact k
theorem st_nx {ρ : Env} {S : Sto} : sNx ρ S = .nx ρ S := rfl
theorem fn_rt {n N : Nat} {body : C} {ds : List D} {S S' : Sto} {d : D} (h : body (env0 n N ds) S = .rt d S') : fnS n N body ds S = .ok d S' := by unfold fnS; rw [h]
theorem fn_nx {n N : Nat} {body : C} {ds : List D} {S S' : Sto} {ρ : Env} (h : body (env0 n N ds) S = .nx ρ S') : fnS n N body ds S = .ok .non S' := by unfold fnS; rw [h]
theorem lcS_f {α : Type} {turn : D → Sto → R (Option D)} {S : Sto} {emb out : α → D} {p : α → Bool} : ∀ {xs : List α}, (∀ x ∈ xs, turn (emb x) S = .ok (if p x = true then some (out x) else none) S) → lcS turn (xs.map emb) S = .ok ((xs.filter p).map out) S
  | [], _ => rfl
  | x :: xs, h => by
    have ih := lcS_f (turn := turn) (S := S) (emb := emb) (out := out) (p := p) (xs := xs) fun e he => h e (List.mem_cons_of_mem _ he)
    rw [List.map_cons]
    unfold lcS
    rw [h x List.mem_cons_self]
    by_cases hp : p x = true
    · rw [if_pos hp, List.filter_cons_of_pos hp]
      dsimp only
      rw [ih]
      rfl
    · rw [if_neg hp, List.filter_cons_of_neg hp]
      exact ih
/-- [out x for x in xs if p x] -/
theorem eLc_f {α : Type} {vs : List Nat} {mi : EI} {g : Tg} {t : T} {e : E} {ρ : Env} {S : Sto} {emb out : α → D} (p : α → Bool) {xs : List α} (hi : mi ρ S = .ok (.st (xs.map emb)) S) (hf : ∀ x ∈ xs, lcT g t e (wipeE ρ vs) (emb x) S = .ok (if p x = true then some (out x) else none) S) (hl : xs.length ≤ 16777216) : eLc vs mi g t e ρ S = .ok (.lst ((xs.filter p).map out)) S := by
  have e1 : lcRun (lcT g t e (wipeE ρ vs)) (.st (xs.map emb)) S = .ok ((xs.filter p).map out) S := lcS_f hf
  show ((mi ρ S).bind fun src S => _) = _
  rw [hi]
  show (match lcRun (lcT g t e (wipeE ρ vs)) (.st (xs.map emb)) S with | .ok ys S' => if fits ys.length = true then R.ok (D.lst ys) S' else .bad | _ => .bad) = _
  rw [e1]
  show (if fits ((xs.filter p).map out).length = true then R.ok (D.lst ((xs.filter p).map out)) S else .bad) = _
  rw [if_pos (fits_of (by rw [List.length_map]; exact Nat.le_trans (List.length_filter_le _ _) hl))]
/-- [out x for x in xs] -/
theorem eLc_m {α : Type} {vs : List Nat} {mi : EI} {g : Tg} {t : T} {e : E} {ρ : Env} {S : Sto} {emb out : α → D} {xs : List α} (hi : mi ρ S = .ok (.st (xs.map emb)) S) (hf : ∀ x ∈ xs, lcT g t e (wipeE ρ vs) (emb x) S = .ok (some (out x)) S) (hl : xs.length ≤ 16777216) : eLc vs mi g t e ρ S = .ok (.lst (xs.map out)) S := by
  have z := eLc_f (vs := vs) (mi := mi) (g := g) (t := t) (e := e) (ρ := ρ) (S := S) (emb := emb) (out := out) (fun _ => true) hi (fun x hx => by rw [hf x hx]; rfl) hl
  rw [z, List.filter_eq_self.mpr fun _ _ => rfl]
theorem all_any : ∀ l : List Bool, (!(l.any fun b => b == false)) = l.all id
  | [] => rfl
  | b :: l => by rw [List.any_cons, List.all_cons, ← all_any l]; cases b <;> simp
theorem any_any : ∀ l : List Bool, (l.any fun b => b == true) = l.any id
  | [] => rfl
  | b :: l => by rw [List.any_cons, List.any_cons, ← any_any l]; cases b <;> simp
theorem irow_map : ∀ (n k : Nat), irow (k : Int) n = ((List.range' k n).map fun i : Nat => D.int i)
  | 0, _ => rfl
  | n + 1, k => by
    rw [List.range'_succ, List.map_cons]
    have := irow_map n (k + 1)
    rw [← this]
    rfl
theorem irow_0 (n : Nat) : irow 0 n = ((List.range n).map fun i : Nat => D.int i) := by
  have := irow_map n 0
  rw [List.range_eq_range']
  exact this
theorem small_nat {n : Nat} (h : n ≤ 16777216) : small n = true := decide_eq_true ⟨by omega, by omega⟩
theorem ite_ok {α : Type} {b : Bool} {x y : α} {S : Sto} : (if b = true then R.ok x S else R.ok y S) = R.ok (if b = true then x else y) S := by cases b <;> rfl
theorem forS_at {α : Type} {turn : D → C} {emb : α → D} (I : List α → Env → Sto → Prop) (whole : List α) (st : ∀ done x rest ρ S, done ++ x :: rest = whole → I done ρ S → ∃ ρ' S', turn (emb x) ρ S = .nx ρ' S' ∧ I (done ++ [x]) ρ' S') : ∀ (xs done : List α) (ρ : Env) (S : Sto), done ++ xs = whole → I done ρ S → ∃ ρ' S', forS turn (xs.map emb) ρ S = .nx ρ' S' ∧ I whole ρ' S'
  | [], done, ρ, S, e, h => ⟨ρ, S, rfl, by rw [List.append_nil] at e; rw [← e]; exact h⟩
  | x :: xs, done, ρ, S, e, h => by
    obtain ⟨ρ1, S1, e1, h1⟩ := st done x xs ρ S e h
    obtain ⟨ρ2, S2, e2, h2⟩ := forS_at I whole st xs (done ++ [x]) ρ1 S1 (by rw [List.append_assoc]; exact e) h1
    refine ⟨ρ2, S2, ?_, h2⟩
    rw [List.map_cons]
    unfold forS
    rw [e1]
    exact e2
/-- a loop that always goes on -/
theorem forS_inv {α : Type} {turn : D → C} {emb : α → D} (I : List α → Env → Sto → Prop) (whole : List α) (ρ : Env) (S : Sto) (st : ∀ done x rest ρ S, done ++ x :: rest = whole → I done ρ S → ∃ ρ' S', turn (emb x) ρ S = .nx ρ' S' ∧ I (done ++ [x]) ρ' S') (h : I [] ρ S) : ∃ ρ' S', forS turn (whole.map emb) ρ S = .nx ρ' S' ∧ I whole ρ' S' := forS_at I whole st whole [] ρ S rfl h
theorem st_for {mi : EI} {g : Tg} {body : C} {ρ : Env} {S : Sto} {ds : List D} {r : RS} (h : mi ρ S = .ok (.st ds) S) (k : forS (turnS g body) ds ρ S = r) : sFor mi g body ρ S = r := by
  unfold sFor
  rw [h]
  exact k
/-- the store with one list -/
abbrev st1 (l : List D) : Sto := ⟨1, [.lst l]⟩
theorem st1_get {l : List D} : (st1 l).get 0 = some (.lst l) := rfl
theorem st1_set {l l' : List D} : (st1 l).set 0 (.lst l') = st1 l' := rfl
theorem ext_1 {l f : List D} (h : l.length + f.length ≤ 16777216) : oExtend (.ref 0) [.lst f] (st1 l) = .ok .non (st1 (l ++ f)) := by
  show (if fits (l.length + f.length) = true then R.ok D.non (st1 (l ++ f)) else .bad) = _
  rw [if_pos (fits_of h)]
theorem app_1 {l : List D} {d : D} (h : l.length + 1 ≤ 16777216) : oAppend (.ref 0) [d] (st1 l) = .ok .non (st1 (l ++ [d])) := by
  show (if fits (l.length + 1) = true then R.ok D.non (st1 (l ++ [d])) else .bad) = _
  rw [if_pos (fits_of h)]
theorem sq_for {α : Type} {mi : EI} {g : Tg} {body b : C} {ρ : Env} {S : Sto} {r : RS} {emb : α → D} (I : List α → Env → Sto → Prop) (whole : List α) (h : mi ρ S = .ok (.st (whole.map emb)) S) (h0 : I [] ρ S) (st : ∀ done x rest ρ S, done ++ x :: rest = whole → I done ρ S → ∃ ρ' S', turnS g body (emb x) ρ S = .nx ρ' S' ∧ I (done ++ [x]) ρ' S') (k : ∀ ρ' S', I whole ρ' S' → b ρ' S' = r) : sSeq (sFor mi g body) b ρ S = r := by
  obtain ⟨ρ', S', e, h1⟩ := forS_inv (emb := emb) (turn := turnS g body) I whole ρ S st h0
  exact sq_nx (st_for h e) (k ρ' S' h1)
theorem z_or {b c : Bool} {S : Sto} : (if b = true then R.ok (D.bl true) S else R.ok (D.bl c) S) = R.ok (D.bl (b || c)) S := by cases b <;> rfl
theorem z_and {b c : Bool} {S : Sto} : (if b = true then R.ok (D.bl c) S else R.ok (D.bl false) S) = R.ok (D.bl (b && c)) S := by cases b <;> rfl
theorem t_or {b c : Bool} {S : Sto} : (if b = true then R.ok true S else R.ok c S) = R.ok (b || c) S := by cases b <;> rfl
theorem t_and {b c : Bool} {S : Sto} : (if b = true then R.ok c S else R.ok false S) = R.ok (b && c) S := by cases b <;> rfl
theorem z_same {α : Type} {b : Bool} {x : R α} : (if b = true then x else x) = x := by cases b <;> rfl
/-- a loop of checks: it goes on where all is well, and gives r back where something is not -/
theorem forS_chk {α : Type} {turn : D → C} {emb : α → D} (I : Env → Sto → Prop) (J : Sto → Prop) (p : α → Bool) (r : D) : ∀ (xs : List α) (ρ : Env) (S : Sto), (∀ x ∈ xs, ∀ ρ S, I ρ S → (p x = true → ∃ ρ' S', turn (emb x) ρ S = .nx ρ' S' ∧ I ρ' S') ∧ (p x = false → ∃ S', turn (emb x) ρ S = .rt r S' ∧ J S')) → I ρ S → (xs.all p = true → ∃ ρ' S', forS turn (xs.map emb) ρ S = .nx ρ' S' ∧ I ρ' S') ∧ (xs.all p = false → ∃ S', forS turn (xs.map emb) ρ S = .rt r S' ∧ J S')
  | [], ρ, S, _, h => ⟨fun _ => ⟨ρ, S, rfl, h⟩, fun e => by (cases e)⟩
  | x :: xs, ρ, S, st, h => by
    obtain ⟨a, b⟩ := st x List.mem_cons_self ρ S h
    rw [List.all_cons, List.map_cons]
    cases hp : p x with
    | false =>
      refine ⟨fun e => by simp at e, fun _ => ?_⟩
      obtain ⟨S', e, j⟩ := b hp
      refine ⟨S', ?_, j⟩
      unfold forS
      rw [e]
    | true =>
      obtain ⟨ρ1, S1, e1, h1⟩ := a hp
      obtain ⟨c, d⟩ := forS_chk I J p r xs ρ1 S1 (fun y hy => st y (List.mem_cons_of_mem _ hy)) h1
      have e2 : forS turn (emb x :: xs.map emb) ρ S = forS turn (xs.map emb) ρ1 S1 := by
        conv => lhs; unfold forS
        rw [e1]
      rw [e2]
      exact ⟨fun e => c (by simpa using e), fun e => d (by simpa using e)⟩
theorem sq_chk {α : Type} {mi : EI} {g : Tg} {body b : C} {ρ : Env} {S : Sto} {rr : RS} {emb : α → D} (I : Env → Sto → Prop) (J : Sto → Prop) (p : α → Bool) (r : D) (xs : List α) (h : mi ρ S = .ok (.st (xs.map emb)) S) (h0 : I ρ S) (st : ∀ x ∈ xs, ∀ ρ S, I ρ S → (p x = true → ∃ ρ' S', turnS g body (emb x) ρ S = .nx ρ' S' ∧ I ρ' S') ∧ (p x = false → ∃ S', turnS g body (emb x) ρ S = .rt r S' ∧ J S')) (k1 : xs.all p = true → ∀ ρ' S', I ρ' S' → b ρ' S' = rr) (k2 : xs.all p = false → ∀ S', J S' → RS.rt r S' = rr) : sSeq (sFor mi g body) b ρ S = rr := by
  obtain ⟨c, d⟩ := forS_chk (turn := turnS g body) (emb := emb) I J p r xs ρ S st h0
  cases hb : xs.all p with
  | true =>
    obtain ⟨ρ', S', e, i⟩ := c hb
    exact sq_nx (st_for h e) (k1 hb ρ' S' i)
  | false =>
    obtain ⟨S', e, j⟩ := d hb
    rw [← k2 hb S' j]
    exact sq_rt (st_for h e)
theorem pairs_zip {α : Type} (f : α → D) : ∀ (xs : List α) (ys : List D), pairs (xs.map f) ys = (xs.zip ys).map fun p => .tup [f p.1, p.2]
  | [], _ => rfl
  | _ :: _, [] => rfl
  | x :: xs, y :: ys => by
    rw [List.map_cons, List.zip_cons_cons, List.map_cons, ← pairs_zip f xs ys]
    rfl
theorem z_lenT {ds : List D} {S : Sto} : oLen [.tup ds] S = .ok (.int ds.length) S := rfl
theorem z_lenL {ds : List D} {S : Sto} : oLen [.lst ds] S = .ok (.int ds.length) S := rfl
theorem rd_str {ds : List Nat} {S : Sto} : rd S (.str ds) = .str ds := rfl
theorem rd_int {i : Int} {S : Sto} : rd S (.int i) = .int i := rfl
theorem rd_bl {i : Bool} {S : Sto} : rd S (.bl i) = .bl i := rfl
theorem rd_non {S : Sto} : rd S .non = .non := rfl
theorem shps_map {α : Type} {n : Nat} {f : α → D} : ∀ xs : List α, (∀ x ∈ xs, shp n (f x) = true) → shps (n + 1) (xs.map f) = true
  | [], _ => by simp [shps]
  | x :: xs, h => by rw [List.map_cons, shps, h x List.mem_cons_self, shps_map xs fun y hy => h y (List.mem_cons_of_mem _ hy)]; rfl
theorem nrfs_map {α : Type} {f : α → D} : ∀ xs : List α, (∀ x ∈ xs, nrf (f x) = true) → nrfs (xs.map f) = true
  | [], _ => rfl
  | x :: xs, h => by rw [List.map_cons, nrfs, h x List.mem_cons_self, nrfs_map xs fun y hy => h y (List.mem_cons_of_mem _ hy)]; rfl
def numL {α : Type} : Int → List α → List (Int × α)
  | _, [] => []
  | i, a :: l => (i, a) :: numL (i + 1) l
theorem numb_map {α : Type} (f : α → D) : ∀ (i : Int) (xs : List α), numb i (xs.map f) = (numL i xs).map fun q => .tup [.int q.1, f q.2]
  | _, [] => rfl
  | i, x :: xs => by rw [List.map_cons, numb, numb_map f (i + 1) xs]; rfl
theorem numL_len {α : Type} : ∀ (i : Int) (xs : List α), (numL i xs).length = xs.length
  | _, [] => rfl
  | i, x :: xs => by rw [numL, List.length_cons, numL_len (i + 1) xs]; rfl
theorem numL_mem {α : Type} {q : Int × α} : ∀ {i : Int} {xs : List α}, q ∈ numL i xs → q.2 ∈ xs
  | i, x :: xs, h => by
    rcases List.mem_cons.mp h with e | h
    · rw [e]; exact List.mem_cons_self
    · exact List.mem_cons_of_mem _ (numL_mem h)
/-- the store with two lists -/
abbrev st2 (a b : List D) : Sto := ⟨2, [.lst b, .lst a]⟩
theorem st2_pop {a b : List D} {d : D} : oPop (.ref 1) [] (st2 a (b ++ [d])) = .ok d (st2 a b) := by
  show (match (b ++ [d])[(b ++ [d]).length - 1]? with | some e => R.ok e (st2 a (b ++ [d]).dropLast) | none => .bad) = _
  simp
theorem st2_app {a b : List D} {d : D} (h : a.length + 1 ≤ 16777216) : oAppend (.ref 0) [d] (st2 a b) = .ok .non (st2 (a ++ [d]) b) := by
  show (if fits (a.length + 1) = true then R.ok D.non (st2 (a ++ [d]) b) else .bad) = _
  rw [if_pos (fits_of h)]
theorem st2_ext {a b f : List D} (h : b.length + f.length ≤ 16777216) : oExtend (.ref 1) [.lst f] (st2 a b) = .ok .non (st2 a (b ++ f)) := by
  show (if fits (b.length + f.length) = true then R.ok D.non (st2 a (b ++ f)) else .bad) = _
  rw [if_pos (fits_of h)]
theorem st2_ne {a b : List D} (h : shps 60 b = true) : oNe (.ref 1) (.lst []) (st2 a b) = .ok (.bl (!b.isEmpty)) (st2 a b) := by
  show (if shp 60 (.lst b) = true ∧ shp 60 (.lst []) = true then R.ok (D.bl (!eqv (.lst b) (.lst []))) (st2 a b) else .bad) = _
  rw [if_pos ⟨by rw [shp]; exact h, rfl⟩]
  cases b <;> rfl
theorem while_t {t : T} {b : C} {k : Nat} {ρ ρ' : Env} {S S1 S' : Sto} (h : t ρ S = .ok true S1) (h2 : b ρ S1 = .nx ρ' S') : whileS t b (k + 1) ρ S = whileS t b k ρ' S' := by
  conv => lhs; unfold whileS
  rw [h]
  show (match b ρ S1 with | .nx ρ' S' => whileS t b k ρ' S' | .ct ρ' S' => whileS t b k ρ' S' | .bk ρ' S' => RS.nx ρ' S' | .rt d S' => RS.rt d S' | .ex x ρ' S' => RS.ex x ρ' S' | .bad => RS.bad) = _
  rw [h2]
theorem while_f {t : T} {b : C} {k : Nat} {ρ : Env} {S S1 : Sto} (h : t ρ S = .ok false S1) : whileS t b (k + 1) ρ S = .nx ρ S1 := by
  unfold whileS
  rw [h]
  rfl
theorem z_addT {ds es : List D} {S : Sto} (h : ds.length + es.length ≤ 16777216) : oAdd (.tup ds) (.tup es) S = .ok (.tup (ds ++ es)) S := by
  show (if fits (ds.length + es.length) = true then R.ok (D.tup (ds ++ es)) S else .bad) = _
  rw [if_pos (fits_of h)]
theorem z_addL {ds es : List D} {S : Sto} (h : ds.length + es.length ≤ 16777216) : oAdd (.lst ds) (.lst es) S = .ok (.lst (ds ++ es)) S := by
  show (if fits (ds.length + es.length) = true then R.ok (D.lst (ds ++ es)) S else .bad) = _
  rw [if_pos (fits_of h)]
theorem z_addI {i j : Int} {S : Sto} : oAdd (.int i) (.int j) S = .ok (.int (i + j)) S := rfl
theorem z_subI {i j : Int} {S : Sto} : oSub (.int i) (.int j) S = .ok (.int (i - j)) S := rfl
theorem z_slF {l : List D} {k : Nat} {S : Sto} (h : k ≤ l.length) : oSl (.lst l) (some (k : Int)) none S = .ok (.lst (l.drop k)) S := by
  show R.ok (D.lst (cut l (some (k : Int)) none)) S = _
  rw [cut_from h]
theorem z_slT {l : List D} {k : Nat} {S : Sto} (h : k ≤ l.length) : oSl (.lst l) none (some (k : Int)) S = .ok (.lst (l.take k)) S := by
  show R.ok (D.lst (cut l none (some (k : Int)))) S = _
  rw [cut_to h]
theorem z_slFt {l : List D} {k : Nat} {S : Sto} (h : k ≤ l.length) : oSl (.tup l) (some (k : Int)) none S = .ok (.tup (l.drop k)) S := by
  show R.ok (D.tup (cut l (some (k : Int)) none)) S = _
  rw [cut_from h]
theorem z_slTt {l : List D} {k : Nat} {S : Sto} (h : k ≤ l.length) : oSl (.tup l) none (some (k : Int)) S = .ok (.tup (l.take k)) S := by
  show R.ok (D.tup (cut l none (some (k : Int)))) S = _
  rw [cut_to h]
theorem blsOf_map : ∀ l : List Bool, blsOf (l.map D.bl) = some l
  | [] => rfl
  | b :: l => by rw [List.map_cons, blsOf, blsOf_map l]
theorem z_all {l : List Bool} {S : Sto} : oAll [.lst (l.map D.bl)] S = .ok (.bl (l.all id)) S := by
  show (match blsOf (l.map D.bl) with | some bs => R.ok (D.bl (bs.all id)) S | none => .bad) = _
  rw [blsOf_map]
theorem z_any {l : List Bool} {S : Sto} : oAny [.lst (l.map D.bl)] S = .ok (.bl (l.any id)) S := by
  show (match blsOf (l.map D.bl) with | some bs => R.ok (D.bl (bs.any id)) S | none => .bad) = _
  rw [blsOf_map]
theorem forS_c {turn : D → C} {d : D} {ds : List D} {ρ ρ' : Env} {S S' : Sto} {r : RS} (h : turn d ρ S = .nx ρ' S') (k : forS turn ds ρ' S' = r) : forS turn (d :: ds) ρ S = r := by
  unfold forS
  rw [h]
  exact k
theorem forS_r {turn : D → C} {d e : D} {ds : List D} {ρ : Env} {S S' : Sto} (h : turn d ρ S = .rt e S') : forS turn (d :: ds) ρ S = .rt e S' := by
  unfold forS
  rw [h]
theorem forS_e {turn : D → C} {ρ : Env} {S : Sto} : forS turn [] ρ S = .nx ρ S := rfl
theorem eLc_e {α : Type} {vs : List Nat} {mi : EI} {g : Tg} {t : T} {e : E} {ρ : Env} {S : Sto} {emb : α → D} {out : α → D} (p : α → Bool) {xs : List α} {ys : List D} (hi : mi ρ S = .ok (.st (xs.map emb)) S) (hf : ∀ x ∈ xs, lcT g t e (wipeE ρ vs) (emb x) S = .ok (if p x = true then some (out x) else none) S) (hl : xs.length ≤ 16777216) (hy : (xs.filter p).map out = ys) : eLc vs mi g t e ρ S = .ok (.lst ys) S := by rw [eLc_f p hi hf hl, hy]
theorem numL_range {α : Type} (f : Nat → α) (p : Nat → Bool) : ∀ (n k : Nat), ((numL (k : Int) ((List.range' k n).map f)).filter fun q => p q.1.toNat).map (fun q => D.int q.1) = ((List.range' k n).filter p).map fun i : Nat => D.int i
  | 0, _ => rfl
  | n + 1, k => by
    have ih := numL_range f p n (k + 1)
    rw [List.range'_succ, List.map_cons, numL]
    have e : ((k : Int) + 1) = ((k + 1 : Nat) : Int) := by omega
    rw [e]
    by_cases h : p k = true
    · rw [List.filter_cons_of_pos (by simpa using h), List.filter_cons_of_pos h, List.map_cons, List.map_cons, ih]
    · rw [List.filter_cons_of_neg (by simpa using h), List.filter_cons_of_neg h, ih]
theorem numL_rangeM {α : Type} {f : Nat → α} : ∀ (n k : Nat) {q : Int × α}, q ∈ numL (k : Int) ((List.range' k n).map f) → ∃ c : Nat, q = ((c : Int), f c) ∧ c < k + n
  | n + 1, k, q, h => by
    rw [List.range'_succ, List.map_cons, numL] at h
    have e : ((k : Int) + 1) = ((k + 1 : Nat) : Int) := by omega
    rw [e] at h
    rcases List.mem_cons.mp h with h | h
    · exact ⟨k, h, by omega⟩
    · obtain ⟨c, h1, h2⟩ := numL_rangeM n (k + 1) h
      exact ⟨c, h1, by omega⟩
end Z

/-! ZB: the laws' bag: what is drawn. -/
namespace Z
open PySem PySem.Spec PyProof PyProof.Rows L2
/-- a store with a bag in front -/
def Bg (β : Nat) (S : Sto) : Prop := S.Wf ∧ ∃ b : Bag, S.get β = some (.bag b) ∧ b.l.length ≤ 1000
/-- what stands behind the bag stays -/
def Nxt (β : Nat) (S S' : Sto) : Prop := Bg β S' ∧ S.len ≤ S'.len ∧ ∀ i, i < S.len → i ≠ β → S'.get i = S.get i
theorem Nxt.refl {β : Nat} {S : Sto} (h : Bg β S) : Nxt β S S := ⟨h, Nat.le_refl _, fun _ _ _ => rfl⟩
theorem Nxt.trans {β : Nat} {S S1 S2 : Sto} (a : Nxt β S S1) (b : Nxt β S1 S2) : Nxt β S S2 := ⟨b.1, Nat.le_trans a.2.1 b.2.1, fun i h n => (b.2.2 i (Nat.lt_of_lt_of_le h a.2.1) n).trans (a.2.2 i h n)⟩
theorem Bg.lt {β : Nat} {S : Sto} (h : Bg β S) : β < S.len := let ⟨_, _, e, _⟩ := h; Sto.get_lt e
theorem Bg.pos {β : Nat} {S : Sto} (h : Bg β S) : 0 < S.len := Nat.lt_of_le_of_lt (Nat.zero_le _) h.lt
theorem Nxt.push {β : Nat} {S : Sto} {o : O} (h : Bg β S) : Nxt β S (S.push o) := by
  obtain ⟨w, b, e, l⟩ := h
  have h0 : β < S.len := Sto.get_lt e
  refine ⟨⟨w.push, b, ?_, l⟩, Nat.le_succ _, fun i hi _ => Sto.get_push_lt hi⟩
  rw [Sto.get_push_lt h0]; exact e
theorem Nxt.set {β : Nat} {S : Sto} {n : Nat} {o : O} (h : Bg β S) (hn : n ≠ β) : Bg β (S.set n o) ∧ (S.set n o).len = S.len ∧ ∀ i, i ≠ n → (S.set n o).get i = S.get i := by
  obtain ⟨w, b, e, l⟩ := h
  refine ⟨⟨w.set, b, ?_, l⟩, Sto.set_len, fun i hi => Sto.get_set_ne hi⟩
  rw [Sto.get_set_ne (fun q => hn q.symm)]; exact e
theorem set_set {S : Sto} {n : Nat} {a b : O} : (S.set n a).set n b = S.set n b := by
  unfold Sto.set
  by_cases h : n < S.len
  · simp only [if_pos h, List.set_set]
  · simp only [if_neg h]
theorem set_same {S : Sto} {n : Nat} {a : O} (h : S.get n = some a) : S.set n a = S := by
  have hn := Sto.get_lt h
  unfold Sto.set Sto.get at *
  rw [if_pos hn] at h ⊢
  obtain ⟨hl, he⟩ := List.getElem?_eq_some_iff.mp h
  congr 1
  rw [← he]
  exact List.set_getElem_self hl
def m_take : C := (sSeq (sIf (toB (eOp oEq (eOp oIx (eVar 0) (eC (.int 0))) (eC (.int 0)))) (sSeq (sSet 4 (eOp oIx (eOp oAdd (eSl (eOp oIx (eVar 0) (eC (.int 3))) (pSome (eOp oIx (eVar 0) (eC (.int 2)))) pNone) (eLst (aCons (eC (.int 0)) aNil))) (eC (.int 0)))) (sSeq (sAugS (eVar 0) (eC (.int 2)) (eC (.int 1)) oAddI) (sSeq (sIf (toB (eOp (oCmp .GtE) (eVar 4) (eOp oPow (eC (.int 10)) (eC (.int 18))))) (sPut (eVar 4) (eVar 0) (eC (.int 0))) sNx) (sSeq (sSet 5 (eOp oAdd (eOp oAdd (eOp oMul (eOp oIx (eVar 0) (eC (.int 1))) (eC (.int 48271))) (eOp oMod (eB oInt (aCons (eVar 4) aNil)) (eC (.int 2147483647)))) (eOp oMul (eC (.int 7919)) (eOp oIx (eVar 0) (eC (.int 2)))))) (sPut (eOp oMod (eB oInt (aCons (eVar 5) aNil)) (eC (.int 2147483647))) (eVar 0) (eC (.int 1))))))) sNx) (sSeq (sIf (toB (eOp (oCmp .Gt) (eOp oIx (eVar 0) (eC (.int 0))) (eC (.int 0)))) (sSeq (sSet 6 (eOp oMod (eB oInt (aCons (eOp oIx (eVar 0) (eC (.int 0))) aNil)) (eVar 1))) (sSeq (sPut (eOp oDiv (eB oInt (aCons (eOp oIx (eVar 0) (eC (.int 0))) aNil)) (eVar 1)) (eVar 0) (eC (.int 0))) (sRet (eVar 6)))) sNx) (sSeq (sSet 2 (eOp oMod (eB oInt (aCons (eOp oMul (eOp oAdd (eOp oIx (eVar 0) (eC (.int 1))) (eC (.int 1))) (eC (.int 39373))) aNil)) (eC (.int 1000000007)))) (sSeq (sSet 3 (eOp oMod (eB oInt (aCons (eOp oMul (eOp oMod (eB oInt (aCons (eOp oMul (eVar 2) (eVar 2)) aNil)) (eC (.int 998244353))) (eC (.int 30011))) aNil)) (eC (.int 998244353)))) (sRet (eOp oMod (eB oInt (aCons (eOp oDiv (eVar 3) (eC (.int 7))) aNil)) (eVar 1)))))))
def f_take : Fn := fnS 2 7 m_take
theorem z_modI {i j : Int} {S : Sto} (h : 0 < j) : oMod (.int i) (.int j) S = .ok (.int (i % j)) S := by
  show (if decide (0 < j) = true then R.ok (D.int (i % j)) S else .bad) = _
  rw [if_pos (decide_eq_true h)]
theorem z_divI {i j : Int} {S : Sto} (h : 0 < j) (h2 : j < 1073741824) : oDiv (.int i) (.int j) S = .ok (.int (i / j)) S := by
  show (if divOk j = true then R.ok (D.int (i / j)) S else .bad) = _
  have : divOk j = true := by
    unfold divOk
    rw [decide_eq_true h, Bool.true_and]
    exact Nat.ble_eq_true_of_le (by omega)
  rw [if_pos this]
theorem z_mulI {i j : Int} {S : Sto} (h : lt64 j = true) : oMul (.int i) (.int j) S = .ok (.int (i * j)) S := by
  show (if (lt64 i || lt64 j) = true then R.ok (D.int (i * j)) S else .bad) = _
  rw [h, Bool.or_true, if_pos rfl]
theorem z_mulI2 {i j : Int} {S : Sto} (h : lt64 i = true) : oMul (.int i) (.int j) S = .ok (.int (i * j)) S := by
  show (if (lt64 i || lt64 j) = true then R.ok (D.int (i * j)) S else .bad) = _
  rw [h, Bool.true_or, if_pos rfl]
theorem lt64_of {i : Int} (h : 0 ≤ i) (h2 : i < 1000000007) : lt64 i = true := Nat.ble_eq_true_of_le (by omega)
theorem z_int {i : Int} {S : Sto} : oInt [.int i] S = .ok (.int i) S := rfl
theorem take_ok {β : Nat} {S : Sto} {many : Int} (h : Bg β S) (h0 : 0 < many) (h1 : many < 1073741824) : ∃ v S', f_take [.ref β, .int many] S = .ok (.int v) S' ∧ 0 ≤ v ∧ v < many ∧ Nxt β S S' := by
  obtain ⟨w, b0, e0, hl⟩ := h
  have hp : β < S.len := Sto.get_lt e0
  have eS : S = S.set β (.bag b0) := (set_same e0).symm
  have G : ∀ b : Bag, (S.set β (.bag b)).get β = some (.bag b) := fun b => Sto.get_set_self w hp
  have X0 : ∀ b : Bag, oIx (.ref β) (.int 0) (S.set β (.bag b)) = .ok (.int b.a) (S.set β (.bag b)) := fun b => by unfold oIx rd; dsimp only; rw [G]; rfl
  have X1 : ∀ b : Bag, oIx (.ref β) (.int 1) (S.set β (.bag b)) = .ok (.int b.b) (S.set β (.bag b)) := fun b => by unfold oIx rd; dsimp only; rw [G]; rfl
  have X2 : ∀ b : Bag, oIx (.ref β) (.int 2) (S.set β (.bag b)) = .ok (.int b.c) (S.set β (.bag b)) := fun b => by unfold oIx rd; dsimp only; rw [G]; rfl
  have X3 : ∀ b : Bag, oIx (.ref β) (.int 3) (S.set β (.bag b)) = .ok (.lst (b.l.map .int)) (S.set β (.bag b)) := fun b => by unfold oIx rd; dsimp only; rw [G]; rfl
  have Y2 : ∀ b : Bag, oGet (.ref β) (.int 2) (S.set β (.bag b)) = .ok (.int b.c) (S.set β (.bag b)) := fun b => by unfold oGet rd; dsimp only; rw [G]; rfl
  have P0 : ∀ (b : Bag) x, oSet (.ref β) (.int 0) (.int x) (S.set β (.bag b)) = some (S.set β (.bag { b with a := x })) := fun b x => by unfold oSet; dsimp only; rw [G]; dsimp only; unfold bagSet; dsimp only; rw [if_pos rfl]; dsimp only; rw [set_set]
  have P1 : ∀ (b : Bag) x, oSet (.ref β) (.int 1) (.int x) (S.set β (.bag b)) = some (S.set β (.bag { b with b := x })) := fun b x => by unfold oSet; dsimp only; rw [G]; dsimp only; unfold bagSet; dsimp only; rw [if_neg (by decide), if_pos rfl]; dsimp only; rw [set_set]
  have P2 : ∀ (b : Bag) x, oSet (.ref β) (.int 2) (.int x) (S.set β (.bag b)) = some (S.set β (.bag { b with c := x })) := fun b x => by unfold oSet; dsimp only; rw [G]; dsimp only; unfold bagSet; dsimp only; rw [if_neg (by decide), if_neg (by decide), if_pos rfl]; dsimp only; rw [set_set]
  have N : ∀ b : Bag, b.l.length ≤ 1000 → Nxt β S (S.set β (.bag b)) := fun b hb => ⟨⟨w.set, b, G b, hb⟩, by rw [Sto.set_len]; exact Nat.le_refl _, fun i _ hi => Sto.get_set_ne hi⟩
  -- the first step
  have A : ∃ x4 x5 b, sIf (toB (eOp oEq (eOp oIx (eVar 0) (eC (.int 0))) (eC (.int 0)))) (sSeq (sSet 4 (eOp oIx (eOp oAdd (eSl (eOp oIx (eVar 0) (eC (.int 3))) (pSome (eOp oIx (eVar 0) (eC (.int 2)))) pNone) (eLst (aCons (eC (.int 0)) aNil))) (eC (.int 0)))) (sSeq (sAugS (eVar 0) (eC (.int 2)) (eC (.int 1)) oAddI) (sSeq (sIf (toB (eOp (oCmp .GtE) (eVar 4) (eOp oPow (eC (.int 10)) (eC (.int 18))))) (sPut (eVar 4) (eVar 0) (eC (.int 0))) sNx) (sSeq (sSet 5 (eOp oAdd (eOp oAdd (eOp oMul (eOp oIx (eVar 0) (eC (.int 1))) (eC (.int 48271))) (eOp oMod (eB oInt (aCons (eVar 4) aNil)) (eC (.int 2147483647)))) (eOp oMul (eC (.int 7919)) (eOp oIx (eVar 0) (eC (.int 2)))))) (sPut (eOp oMod (eB oInt (aCons (eVar 5) aNil)) (eC (.int 2147483647))) (eVar 0) (eC (.int 1))))))) sNx [some (.ref β), some (.int many), none, none, none, none, none] (S.set β (.bag b0)) = .nx [some (.ref β), some (.int many), none, none, x4, x5, none] (S.set β (.bag b)) ∧ b.l.length ≤ 1000 := by
    by_cases ha : b0.a = 0
    · obtain ⟨cell, hc⟩ : ∃ cell : Int, oIx (.lst ((cut b0.l (some b0.c) none).map D.int ++ [.int 0])) (.int 0) (S.set β (.bag b0)) = .ok (.int cell) (S.set β (.bag b0)) := by
        cases cut b0.l (some b0.c) none with
        | nil => exact ⟨0, z_l0⟩
        | cons x r => exact ⟨x, z_l0⟩
      have hcut : (cut (b0.l.map D.int) (some b0.c) none) = (cut b0.l (some b0.c) none).map .int := by
        unfold cut
        rw [List.length_map, List.map_take, List.map_drop]
      have hcl : (cut b0.l (some b0.c) none).length ≤ 1000 := by
        unfold cut
        have := List.length_take_le (HT.sIx b0.l.length b0.l.length none - HT.sIx b0.l.length 0 (some b0.c)) (b0.l.drop (HT.sIx b0.l.length 0 (some b0.c)))
        have := List.length_take_le' (HT.sIx b0.l.length b0.l.length none - HT.sIx b0.l.length 0 (some b0.c)) (b0.l.drop (HT.sIx b0.l.length 0 (some b0.c)))
        rw [List.length_drop] at this
        omega
      have hadd : oAdd (.lst ((cut b0.l (some b0.c) none).map D.int)) (.lst [.int 0]) (S.set β (.bag b0)) = .ok (.lst ((cut b0.l (some b0.c) none).map D.int ++ [.int 0])) (S.set β (.bag b0)) := z_addL (by simp; omega)
      have hsl : oSl (.lst (b0.l.map D.int)) (some b0.c) none (S.set β (.bag b0)) = .ok (.lst ((cut b0.l (some b0.c) none).map D.int)) (S.set β (.bag b0)) := by rw [← hcut]; rfl
      have hpow : ∀ S, oPow (.int 10) (.int 18) S = .ok (.int (10 ^ 18)) S := fun _ => rfl
      have fin : ∀ b : Bag, b.l.length ≤ 1000 → ∃ x4 x5 b', sSeq (sSet 5 (eOp oAdd (eOp oAdd (eOp oMul (eOp oIx (eVar 0) (eC (.int 1))) (eC (.int 48271))) (eOp oMod (eB oInt (aCons (eVar 4) aNil)) (eC (.int 2147483647)))) (eOp oMul (eC (.int 7919)) (eOp oIx (eVar 0) (eC (.int 2)))))) (sPut (eOp oMod (eB oInt (aCons (eVar 5) aNil)) (eC (.int 2147483647))) (eVar 0) (eC (.int 1))) [some (.ref β), some (.int many), none, none, some (.int cell), none, none] (S.set β (.bag b)) = .nx [some (.ref β), some (.int many), none, none, x4, x5, none] (S.set β (.bag b')) ∧ b'.l.length ≤ 1000 := fun b hb => by
        refine ⟨some (.int cell), some (.int (b.b * 48271 + cell % 2147483647 + 7919 * b.c)), { b with b := (b.b * 48271 + cell % 2147483647 + 7919 * b.c) % 2147483647 }, ?_, hb⟩
        simp only [fnS, env0, sSeq, sSet, sRet, sRetN, sIf, sE, sAsg, sPar, sNx, sPut, R.toS, R.bind, eVar, eC, eOp, eTup, eLst, eLstR, aCons, aNil, eIf, eAn, eOr, eNt, eIsi, toB, tNt, tAn, tOr_, tYs, eCall, eCall0, eB, eMt, eMt0, iSrc, iRg1, iRg2, iEn, iZp, gN, gT, gsCons, gsNil, turnS, List.map_cons, List.map_nil, List.length_cons, List.length_nil, List.replicate, List.cons_append, List.nil_append, List.getElem?_cons_zero, List.getElem?_cons_succ, List.set_cons_zero, List.set_cons_succ, Nat.sub_self, Nat.reduceSub, Nat.reduceAdd, if_true, Bool.false_eq_true, if_false, ite_true, ite_false, List.cons.injEq, and_false, false_and, true_and, and_true, decide_false, decide_true, Bool.not_true, Bool.not_false, Bool.true_and, Bool.false_and, Bool.and_true, Bool.and_false, Bool.or_false, Bool.or_true, Bool.false_or, Bool.true_or, Nat.reduceEqDiff, reduceCtorEq, eSl, pSome, pNone, lcT, wipeE, fits_0, fits_1, fits_2, fits_3, fits_4, sPut, X1, X2, P1, z_int, z_addI, z_mulI (show lt64 48271 = true from rfl), z_mulI2 (show lt64 7919 = true from rfl), z_modI (show (0 : Int) < 2147483647 by decide)]
      by_cases hg : (10 ^ 18 : Int) ≤ cell
      · obtain ⟨x4, x5, b', e, hb'⟩ := fin { b0 with c := b0.c + 1, a := cell } hl
        refine ⟨x4, x5, b', ?_, hb'⟩
        refine st_ift (S' := S.set β (.bag b0)) (by simp only [fnS, env0, sSeq, sSet, sRet, sRetN, sIf, sE, sAsg, sPar, sNx, sPut, R.toS, R.bind, eVar, eC, eOp, eTup, eLst, eLstR, aCons, aNil, eIf, eAn, eOr, eNt, eIsi, toB, tNt, tAn, tOr_, tYs, eCall, eCall0, eB, eMt, eMt0, iSrc, iRg1, iRg2, iEn, iZp, gN, gT, gsCons, gsNil, turnS, List.map_cons, List.map_nil, List.length_cons, List.length_nil, List.replicate, List.cons_append, List.nil_append, List.getElem?_cons_zero, List.getElem?_cons_succ, List.set_cons_zero, List.set_cons_succ, Nat.sub_self, Nat.reduceSub, Nat.reduceAdd, if_true, Bool.false_eq_true, if_false, ite_true, ite_false, List.cons.injEq, and_false, false_and, true_and, and_true, decide_false, decide_true, Bool.not_true, Bool.not_false, Bool.true_and, Bool.false_and, Bool.and_true, Bool.and_false, Bool.or_false, Bool.or_true, Bool.false_or, Bool.true_or, Nat.reduceEqDiff, reduceCtorEq, eSl, pSome, pNone, lcT, wipeE, fits_0, fits_1, fits_2, fits_3, fits_4, X0, z_eqi, ha]) ?_
        refine sq_nx (st_set (d := .int cell) (S' := S.set β (.bag b0)) (by simp only [fnS, env0, sSeq, sSet, sRet, sRetN, sIf, sE, sAsg, sPar, sNx, sPut, R.toS, R.bind, eVar, eC, eOp, eTup, eLst, eLstR, aCons, aNil, eIf, eAn, eOr, eNt, eIsi, toB, tNt, tAn, tOr_, tYs, eCall, eCall0, eB, eMt, eMt0, iSrc, iRg1, iRg2, iEn, iZp, gN, gT, gsCons, gsNil, turnS, List.map_cons, List.map_nil, List.length_cons, List.length_nil, List.replicate, List.cons_append, List.nil_append, List.getElem?_cons_zero, List.getElem?_cons_succ, List.set_cons_zero, List.set_cons_succ, Nat.sub_self, Nat.reduceSub, Nat.reduceAdd, if_true, Bool.false_eq_true, if_false, ite_true, ite_false, List.cons.injEq, and_false, false_and, true_and, and_true, decide_false, decide_true, Bool.not_true, Bool.not_false, Bool.true_and, Bool.false_and, Bool.and_true, Bool.and_false, Bool.or_false, Bool.or_true, Bool.false_or, Bool.true_or, Nat.reduceEqDiff, reduceCtorEq, eSl, pSome, pNone, lcT, wipeE, fits_0, fits_1, fits_2, fits_3, fits_4, X3, X2, hsl, hadd, hc, show fits 1 = true from rfl])) ?_
        refine sq_nx (ρ' := [some (.ref β), some (.int many), none, none, some (.int cell), none, none]) (S' := S.set β (.bag { b0 with c := b0.c + 1 })) (by simp only [fnS, env0, sSeq, sSet, sRet, sRetN, sIf, sE, sAsg, sPar, sNx, sPut, R.toS, R.bind, eVar, eC, eOp, eTup, eLst, eLstR, aCons, aNil, eIf, eAn, eOr, eNt, eIsi, toB, tNt, tAn, tOr_, tYs, eCall, eCall0, eB, eMt, eMt0, iSrc, iRg1, iRg2, iEn, iZp, gN, gT, gsCons, gsNil, turnS, List.map_cons, List.map_nil, List.length_cons, List.length_nil, List.replicate, List.cons_append, List.nil_append, List.getElem?_cons_zero, List.getElem?_cons_succ, List.set_cons_zero, List.set_cons_succ, Nat.sub_self, Nat.reduceSub, Nat.reduceAdd, if_true, Bool.false_eq_true, if_false, ite_true, ite_false, List.cons.injEq, and_false, false_and, true_and, and_true, decide_false, decide_true, Bool.not_true, Bool.not_false, Bool.true_and, Bool.false_and, Bool.and_true, Bool.and_false, Bool.or_false, Bool.or_true, Bool.false_or, Bool.true_or, Nat.reduceEqDiff, reduceCtorEq, eSl, pSome, pNone, lcT, wipeE, fits_0, fits_1, fits_2, fits_3, fits_4, sAugS, Y2, oAddI, P2]) ?_
        refine sq_nx (ρ' := [some (.ref β), some (.int many), none, none, some (.int cell), none, none]) (S' := S.set β (.bag { b0 with c := b0.c + 1, a := cell })) (st_ift (S' := S.set β (.bag { b0 with c := b0.c + 1 })) (by simp only [fnS, env0, sSeq, sSet, sRet, sRetN, sIf, sE, sAsg, sPar, sNx, sPut, R.toS, R.bind, eVar, eC, eOp, eTup, eLst, eLstR, aCons, aNil, eIf, eAn, eOr, eNt, eIsi, toB, tNt, tAn, tOr_, tYs, eCall, eCall0, eB, eMt, eMt0, iSrc, iRg1, iRg2, iEn, iZp, gN, gT, gsCons, gsNil, turnS, List.map_cons, List.map_nil, List.length_cons, List.length_nil, List.replicate, List.cons_append, List.nil_append, List.getElem?_cons_zero, List.getElem?_cons_succ, List.set_cons_zero, List.set_cons_succ, Nat.sub_self, Nat.reduceSub, Nat.reduceAdd, if_true, Bool.false_eq_true, if_false, ite_true, ite_false, List.cons.injEq, and_false, false_and, true_and, and_true, decide_false, decide_true, Bool.not_true, Bool.not_false, Bool.true_and, Bool.false_and, Bool.and_true, Bool.and_false, Bool.or_false, Bool.or_true, Bool.false_or, Bool.true_or, Nat.reduceEqDiff, reduceCtorEq, eSl, pSome, pNone, lcT, wipeE, fits_0, fits_1, fits_2, fits_3, fits_4, hpow, z_ge, decide_eq_true hg]) (by simp only [fnS, env0, sSeq, sSet, sRet, sRetN, sIf, sE, sAsg, sPar, sNx, sPut, R.toS, R.bind, eVar, eC, eOp, eTup, eLst, eLstR, aCons, aNil, eIf, eAn, eOr, eNt, eIsi, toB, tNt, tAn, tOr_, tYs, eCall, eCall0, eB, eMt, eMt0, iSrc, iRg1, iRg2, iEn, iZp, gN, gT, gsCons, gsNil, turnS, List.map_cons, List.map_nil, List.length_cons, List.length_nil, List.replicate, List.cons_append, List.nil_append, List.getElem?_cons_zero, List.getElem?_cons_succ, List.set_cons_zero, List.set_cons_succ, Nat.sub_self, Nat.reduceSub, Nat.reduceAdd, if_true, Bool.false_eq_true, if_false, ite_true, ite_false, List.cons.injEq, and_false, false_and, true_and, and_true, decide_false, decide_true, Bool.not_true, Bool.not_false, Bool.true_and, Bool.false_and, Bool.and_true, Bool.and_false, Bool.or_false, Bool.or_true, Bool.false_or, Bool.true_or, Nat.reduceEqDiff, reduceCtorEq, eSl, pSome, pNone, lcT, wipeE, fits_0, fits_1, fits_2, fits_3, fits_4, sPut, P0])) ?_
        exact e
      · obtain ⟨x4, x5, b', e, hb'⟩ := fin { b0 with c := b0.c + 1 } hl
        refine ⟨x4, x5, b', ?_, hb'⟩
        refine st_ift (S' := S.set β (.bag b0)) (by simp only [fnS, env0, sSeq, sSet, sRet, sRetN, sIf, sE, sAsg, sPar, sNx, sPut, R.toS, R.bind, eVar, eC, eOp, eTup, eLst, eLstR, aCons, aNil, eIf, eAn, eOr, eNt, eIsi, toB, tNt, tAn, tOr_, tYs, eCall, eCall0, eB, eMt, eMt0, iSrc, iRg1, iRg2, iEn, iZp, gN, gT, gsCons, gsNil, turnS, List.map_cons, List.map_nil, List.length_cons, List.length_nil, List.replicate, List.cons_append, List.nil_append, List.getElem?_cons_zero, List.getElem?_cons_succ, List.set_cons_zero, List.set_cons_succ, Nat.sub_self, Nat.reduceSub, Nat.reduceAdd, if_true, Bool.false_eq_true, if_false, ite_true, ite_false, List.cons.injEq, and_false, false_and, true_and, and_true, decide_false, decide_true, Bool.not_true, Bool.not_false, Bool.true_and, Bool.false_and, Bool.and_true, Bool.and_false, Bool.or_false, Bool.or_true, Bool.false_or, Bool.true_or, Nat.reduceEqDiff, reduceCtorEq, eSl, pSome, pNone, lcT, wipeE, fits_0, fits_1, fits_2, fits_3, fits_4, X0, z_eqi, ha]) ?_
        refine sq_nx (st_set (d := .int cell) (S' := S.set β (.bag b0)) (by simp only [fnS, env0, sSeq, sSet, sRet, sRetN, sIf, sE, sAsg, sPar, sNx, sPut, R.toS, R.bind, eVar, eC, eOp, eTup, eLst, eLstR, aCons, aNil, eIf, eAn, eOr, eNt, eIsi, toB, tNt, tAn, tOr_, tYs, eCall, eCall0, eB, eMt, eMt0, iSrc, iRg1, iRg2, iEn, iZp, gN, gT, gsCons, gsNil, turnS, List.map_cons, List.map_nil, List.length_cons, List.length_nil, List.replicate, List.cons_append, List.nil_append, List.getElem?_cons_zero, List.getElem?_cons_succ, List.set_cons_zero, List.set_cons_succ, Nat.sub_self, Nat.reduceSub, Nat.reduceAdd, if_true, Bool.false_eq_true, if_false, ite_true, ite_false, List.cons.injEq, and_false, false_and, true_and, and_true, decide_false, decide_true, Bool.not_true, Bool.not_false, Bool.true_and, Bool.false_and, Bool.and_true, Bool.and_false, Bool.or_false, Bool.or_true, Bool.false_or, Bool.true_or, Nat.reduceEqDiff, reduceCtorEq, eSl, pSome, pNone, lcT, wipeE, fits_0, fits_1, fits_2, fits_3, fits_4, X3, X2, hsl, hadd, hc, show fits 1 = true from rfl])) ?_
        refine sq_nx (ρ' := [some (.ref β), some (.int many), none, none, some (.int cell), none, none]) (S' := S.set β (.bag { b0 with c := b0.c + 1 })) (by simp only [fnS, env0, sSeq, sSet, sRet, sRetN, sIf, sE, sAsg, sPar, sNx, sPut, R.toS, R.bind, eVar, eC, eOp, eTup, eLst, eLstR, aCons, aNil, eIf, eAn, eOr, eNt, eIsi, toB, tNt, tAn, tOr_, tYs, eCall, eCall0, eB, eMt, eMt0, iSrc, iRg1, iRg2, iEn, iZp, gN, gT, gsCons, gsNil, turnS, List.map_cons, List.map_nil, List.length_cons, List.length_nil, List.replicate, List.cons_append, List.nil_append, List.getElem?_cons_zero, List.getElem?_cons_succ, List.set_cons_zero, List.set_cons_succ, Nat.sub_self, Nat.reduceSub, Nat.reduceAdd, if_true, Bool.false_eq_true, if_false, ite_true, ite_false, List.cons.injEq, and_false, false_and, true_and, and_true, decide_false, decide_true, Bool.not_true, Bool.not_false, Bool.true_and, Bool.false_and, Bool.and_true, Bool.and_false, Bool.or_false, Bool.or_true, Bool.false_or, Bool.true_or, Nat.reduceEqDiff, reduceCtorEq, eSl, pSome, pNone, lcT, wipeE, fits_0, fits_1, fits_2, fits_3, fits_4, sAugS, Y2, oAddI, P2]) ?_
        refine sq_nx (ρ' := [some (.ref β), some (.int many), none, none, some (.int cell), none, none]) (S' := S.set β (.bag { b0 with c := b0.c + 1 })) (st_iff (S' := S.set β (.bag { b0 with c := b0.c + 1 })) (by simp only [fnS, env0, sSeq, sSet, sRet, sRetN, sIf, sE, sAsg, sPar, sNx, sPut, R.toS, R.bind, eVar, eC, eOp, eTup, eLst, eLstR, aCons, aNil, eIf, eAn, eOr, eNt, eIsi, toB, tNt, tAn, tOr_, tYs, eCall, eCall0, eB, eMt, eMt0, iSrc, iRg1, iRg2, iEn, iZp, gN, gT, gsCons, gsNil, turnS, List.map_cons, List.map_nil, List.length_cons, List.length_nil, List.replicate, List.cons_append, List.nil_append, List.getElem?_cons_zero, List.getElem?_cons_succ, List.set_cons_zero, List.set_cons_succ, Nat.sub_self, Nat.reduceSub, Nat.reduceAdd, if_true, Bool.false_eq_true, if_false, ite_true, ite_false, List.cons.injEq, and_false, false_and, true_and, and_true, decide_false, decide_true, Bool.not_true, Bool.not_false, Bool.true_and, Bool.false_and, Bool.and_true, Bool.and_false, Bool.or_false, Bool.or_true, Bool.false_or, Bool.true_or, Nat.reduceEqDiff, reduceCtorEq, eSl, pSome, pNone, lcT, wipeE, fits_0, fits_1, fits_2, fits_3, fits_4, hpow, z_ge, decide_eq_false hg]) st_nx) ?_
        exact e
    · exact ⟨none, none, b0, st_iff (S' := S.set β (.bag b0)) (by simp only [fnS, env0, sSeq, sSet, sRet, sRetN, sIf, sE, sAsg, sPar, sNx, sPut, R.toS, R.bind, eVar, eC, eOp, eTup, eLst, eLstR, aCons, aNil, eIf, eAn, eOr, eNt, eIsi, toB, tNt, tAn, tOr_, tYs, eCall, eCall0, eB, eMt, eMt0, iSrc, iRg1, iRg2, iEn, iZp, gN, gT, gsCons, gsNil, turnS, List.map_cons, List.map_nil, List.length_cons, List.length_nil, List.replicate, List.cons_append, List.nil_append, List.getElem?_cons_zero, List.getElem?_cons_succ, List.set_cons_zero, List.set_cons_succ, Nat.sub_self, Nat.reduceSub, Nat.reduceAdd, if_true, Bool.false_eq_true, if_false, ite_true, ite_false, List.cons.injEq, and_false, false_and, true_and, and_true, decide_false, decide_true, Bool.not_true, Bool.not_false, Bool.true_and, Bool.false_and, Bool.and_true, Bool.and_false, Bool.or_false, Bool.or_true, Bool.false_or, Bool.true_or, Nat.reduceEqDiff, reduceCtorEq, eSl, pSome, pNone, lcT, wipeE, fits_0, fits_1, fits_2, fits_3, fits_4, X0, z_eqi, decide_eq_false ha]) st_nx, hl⟩
  obtain ⟨x4, x5, b, e1, hb⟩ := A
  unfold f_take
  by_cases hg : 0 < b.a
  · refine ⟨b.a % many, S.set β (.bag { b with a := b.a / many }), ?_, Int.emod_nonneg _ (by omega), Int.emod_lt_of_pos _ h0, N _ hb⟩
    conv => lhs; rw [eS]
    refine fn_rt ?_
    refine sq_nx e1 ?_
    refine sq_rt (st_ift (S' := S.set β (.bag b)) (by simp only [fnS, env0, sSeq, sSet, sRet, sRetN, sIf, sE, sAsg, sPar, sNx, sPut, R.toS, R.bind, eVar, eC, eOp, eTup, eLst, eLstR, aCons, aNil, eIf, eAn, eOr, eNt, eIsi, toB, tNt, tAn, tOr_, tYs, eCall, eCall0, eB, eMt, eMt0, iSrc, iRg1, iRg2, iEn, iZp, gN, gT, gsCons, gsNil, turnS, List.map_cons, List.map_nil, List.length_cons, List.length_nil, List.replicate, List.cons_append, List.nil_append, List.getElem?_cons_zero, List.getElem?_cons_succ, List.set_cons_zero, List.set_cons_succ, Nat.sub_self, Nat.reduceSub, Nat.reduceAdd, if_true, Bool.false_eq_true, if_false, ite_true, ite_false, List.cons.injEq, and_false, false_and, true_and, and_true, decide_false, decide_true, Bool.not_true, Bool.not_false, Bool.true_and, Bool.false_and, Bool.and_true, Bool.and_false, Bool.or_false, Bool.or_true, Bool.false_or, Bool.true_or, Nat.reduceEqDiff, reduceCtorEq, eSl, pSome, pNone, lcT, wipeE, fits_0, fits_1, fits_2, fits_3, fits_4, X0, z_gt, decide_eq_true hg]) ?_)
    simp only [fnS, env0, sSeq, sSet, sRet, sRetN, sIf, sE, sAsg, sPar, sNx, sPut, R.toS, R.bind, eVar, eC, eOp, eTup, eLst, eLstR, aCons, aNil, eIf, eAn, eOr, eNt, eIsi, toB, tNt, tAn, tOr_, tYs, eCall, eCall0, eB, eMt, eMt0, iSrc, iRg1, iRg2, iEn, iZp, gN, gT, gsCons, gsNil, turnS, List.map_cons, List.map_nil, List.length_cons, List.length_nil, List.replicate, List.cons_append, List.nil_append, List.getElem?_cons_zero, List.getElem?_cons_succ, List.set_cons_zero, List.set_cons_succ, Nat.sub_self, Nat.reduceSub, Nat.reduceAdd, if_true, Bool.false_eq_true, if_false, ite_true, ite_false, List.cons.injEq, and_false, false_and, true_and, and_true, decide_false, decide_true, Bool.not_true, Bool.not_false, Bool.true_and, Bool.false_and, Bool.and_true, Bool.and_false, Bool.or_false, Bool.or_true, Bool.false_or, Bool.true_or, Nat.reduceEqDiff, reduceCtorEq, eSl, pSome, pNone, lcT, wipeE, fits_0, fits_1, fits_2, fits_3, fits_4, sPut, X0, P0, z_int, z_modI h0, z_divI h0 h1]
  · have hb0 : 0 ≤ (b.b + 1) * 39373 % 1000000007 := Int.emod_nonneg _ (by decide)
    have hb1 : (b.b + 1) * 39373 % 1000000007 < 1000000007 := Int.emod_lt_of_pos _ (by decide)
    refine ⟨(((b.b + 1) * 39373 % 1000000007) * ((b.b + 1) * 39373 % 1000000007) % 998244353 * 30011 % 998244353) / 7 % many, S.set β (.bag b), ?_, Int.emod_nonneg _ (by omega), Int.emod_lt_of_pos _ h0, N _ hb⟩
    conv => lhs; rw [eS]
    refine fn_rt ?_
    refine sq_nx e1 ?_
    refine sq_nx (st_iff (S' := S.set β (.bag b)) (by simp only [fnS, env0, sSeq, sSet, sRet, sRetN, sIf, sE, sAsg, sPar, sNx, sPut, R.toS, R.bind, eVar, eC, eOp, eTup, eLst, eLstR, aCons, aNil, eIf, eAn, eOr, eNt, eIsi, toB, tNt, tAn, tOr_, tYs, eCall, eCall0, eB, eMt, eMt0, iSrc, iRg1, iRg2, iEn, iZp, gN, gT, gsCons, gsNil, turnS, List.map_cons, List.map_nil, List.length_cons, List.length_nil, List.replicate, List.cons_append, List.nil_append, List.getElem?_cons_zero, List.getElem?_cons_succ, List.set_cons_zero, List.set_cons_succ, Nat.sub_self, Nat.reduceSub, Nat.reduceAdd, if_true, Bool.false_eq_true, if_false, ite_true, ite_false, List.cons.injEq, and_false, false_and, true_and, and_true, decide_false, decide_true, Bool.not_true, Bool.not_false, Bool.true_and, Bool.false_and, Bool.and_true, Bool.and_false, Bool.or_false, Bool.or_true, Bool.false_or, Bool.true_or, Nat.reduceEqDiff, reduceCtorEq, eSl, pSome, pNone, lcT, wipeE, fits_0, fits_1, fits_2, fits_3, fits_4, X0, z_gt, decide_eq_false hg]) st_nx) ?_
    simp only [fnS, env0, sSeq, sSet, sRet, sRetN, sIf, sE, sAsg, sPar, sNx, sPut, R.toS, R.bind, eVar, eC, eOp, eTup, eLst, eLstR, aCons, aNil, eIf, eAn, eOr, eNt, eIsi, toB, tNt, tAn, tOr_, tYs, eCall, eCall0, eB, eMt, eMt0, iSrc, iRg1, iRg2, iEn, iZp, gN, gT, gsCons, gsNil, turnS, List.map_cons, List.map_nil, List.length_cons, List.length_nil, List.replicate, List.cons_append, List.nil_append, List.getElem?_cons_zero, List.getElem?_cons_succ, List.set_cons_zero, List.set_cons_succ, Nat.sub_self, Nat.reduceSub, Nat.reduceAdd, if_true, Bool.false_eq_true, if_false, ite_true, ite_false, List.cons.injEq, and_false, false_and, true_and, and_true, decide_false, decide_true, Bool.not_true, Bool.not_false, Bool.true_and, Bool.false_and, Bool.and_true, Bool.and_false, Bool.or_false, Bool.or_true, Bool.false_or, Bool.true_or, Nat.reduceEqDiff, reduceCtorEq, eSl, pSome, pNone, lcT, wipeE, fits_0, fits_1, fits_2, fits_3, fits_4, X1, z_int, z_addI, z_mulI (show lt64 39373 = true from rfl), z_mulI (show lt64 30011 = true from rfl), z_mulI (lt64_of hb0 hb1), z_modI (show (0 : Int) < 1000000007 by decide), z_modI (show (0 : Int) < 998244353 by decide), z_modI h0, z_divI (show (0 : Int) < 7 by decide) (show (7 : Int) < 1073741824 by decide)]
def m_bag : C := (sRet (eBag (aCons (eC (.int 0)) (aCons (eC (.int 1234567891)) (aCons (eC (.int 0)) (aCons (eLc [1] (iSrc (eSl (eVar 0) pNone (pSome (eC (.int 63))))) (gN 1) tYs (eB oAbs (aCons (eVar 1) aNil))) aNil))))))
def f_bag : Fn := (fnS 1 2 m_bag)
theorem intsOf_m : ∀ bs : List Int, intsOf (bs.map .int) = some bs
  | [] => rfl
  | b :: bs => by rw [List.map_cons, intsOf, intsOf_m bs]
theorem bag_ok {ns : List Int} (h : ns.length ≤ 63) (S0 : Sto) (w0 : S0.Wf) : ∃ S, f_bag [.arg ns] S0 = .ok (.ref S0.len) S ∧ Bg S0.len S ∧ S.len = S0.len + 1 ∧ ∀ i, i < S0.len → S.get i = S0.get i := by
  have hl : (cut ns none (some 63)).length ≤ 63 := by
    unfold cut
    have := List.length_take_le' (HT.sIx ns.length ns.length (some 63) - HT.sIx ns.length 0 none) (ns.drop (HT.sIx ns.length 0 none))
    rw [List.length_drop] at this
    omega
  have e : eLc [1] (iSrc (eSl (eVar 0) pNone (pSome (eC (.int 63))))) (gN 1) tYs (eB oAbs (aCons (eVar 1) aNil)) [some (.arg ns), none] S0 = .ok (.lst ((cut ns none (some 63)).map fun i => D.int (if i < 0 then -i else i))) S0 := by
    refine eLc_m (emb := D.int) (xs := cut ns none (some 63)) rfl (fun i _ => ?_) (by omega)
    rfl
  refine ⟨S0.push (.bag ⟨0, 1234567891, 0, (cut ns none (some 63)).map fun i => (if i < 0 then -i else i)⟩), ?_, ⟨w0.push, _, Sto.get_push_self, ?_⟩, rfl, fun i hi => Sto.get_push_lt hi⟩
  · refine fn_rt (st_ret ?_)
    show (eBag (aCons _ (aCons _ (aCons _ (aCons _ aNil))))) [some (.arg ns), none] S0 = _
    revert e
    generalize eLc _ _ _ _ _ = E
    intro e
    have hi := intsOf_m ((cut ns none (some 63)).map fun i => (if i < 0 then -i else i))
    rw [List.map_map] at hi
    unfold eBag
    simp only [fnS, env0, sSeq, sSet, sRet, sRetN, sIf, sE, sAsg, sPar, sNx, sPut, R.toS, R.bind, eVar, eC, eOp, eTup, eLst, eLstR, aCons, aNil, eIf, eAn, eOr, eNt, eIsi, toB, tNt, tAn, tOr_, tYs, eCall, eCall0, eB, eMt, eMt0, iSrc, iRg1, iRg2, iEn, iZp, gN, gT, gsCons, gsNil, turnS, List.map_cons, List.map_nil, List.length_cons, List.length_nil, List.replicate, List.cons_append, List.nil_append, List.getElem?_cons_zero, List.getElem?_cons_succ, List.set_cons_zero, List.set_cons_succ, Nat.sub_self, Nat.reduceSub, Nat.reduceAdd, if_true, Bool.false_eq_true, if_false, ite_true, ite_false, List.cons.injEq, and_false, false_and, true_and, and_true, decide_false, decide_true, Bool.not_true, Bool.not_false, Bool.true_and, Bool.false_and, Bool.and_true, Bool.and_false, Bool.or_false, Bool.or_true, Bool.false_or, Bool.true_or, Nat.reduceEqDiff, reduceCtorEq, eSl, pSome, pNone, lcT, wipeE, fits_0, fits_1, fits_2, fits_3, fits_4, e]
    have hi : intsOf ((cut ns none (some 63)).map fun i => D.int (if i < 0 then -i else i)) = _ := hi
    rw [hi]
  · rw [List.length_map]; omega
/-! ### rows of draws -/
theorem lcS_eff {β : Nat} {γ : Type} {turn : D → Sto → R (Option D)} {out : γ → D} (Q : γ → Prop) : ∀ (ds : List D) (S : Sto), (∀ d ∈ ds, ∀ S, Bg β S → ∃ b S', turn d S = .ok (some (out b)) S' ∧ Q b ∧ Nxt β S S') → Bg β S → ∃ (bs : List γ) (S' : Sto), lcS turn ds S = .ok (bs.map out) S' ∧ (∀ b ∈ bs, Q b) ∧ bs.length = ds.length ∧ Nxt β S S'
  | [], S, _, h => ⟨[], S, rfl, by simp, rfl, Nxt.refl h⟩
  | d :: ds, S, ht, h => by
    obtain ⟨b, S1, e1, q1, n1⟩ := ht d List.mem_cons_self S h
    obtain ⟨bs, S2, e2, q2, l2, n2⟩ := lcS_eff Q ds S1 (fun d hd => ht d (List.mem_cons_of_mem _ hd)) n1.1
    refine ⟨b :: bs, S2, ?_, ?_, by rw [List.length_cons, List.length_cons, l2], n1.trans n2⟩
    · unfold lcS
      rw [e1]
      dsimp only
      rw [e2]
      rfl
    · intro x hx
      rcases List.mem_cons.mp hx with e | hx
      · rw [e]; exact q1
      · exact q2 x hx
/-- some of them -/
theorem lcS_sub {β : Nat} {α : Type} {turn : D → Sto → R (Option D)} {emb out : α → D} : ∀ (xs : List α) (S : Sto), (∀ x ∈ xs, ∀ S, Bg β S → ∃ (b : Bool) (S' : Sto), turn (emb x) S = .ok (if b = true then some (out x) else none) S' ∧ Nxt β S S') → Bg β S → ∃ (ys : List α) (S' : Sto), ys.Sublist xs ∧ lcS turn (xs.map emb) S = .ok (ys.map out) S' ∧ Nxt β S S'
  | [], S, _, h => ⟨[], S, List.Sublist.refl _, rfl, Nxt.refl h⟩
  | x :: xs, S, ht, h => by
    obtain ⟨b, S1, e1, n1⟩ := ht x List.mem_cons_self S h
    obtain ⟨ys, S2, s2, e2, n2⟩ := lcS_sub xs S1 (fun d hd => ht d (List.mem_cons_of_mem _ hd)) n1.1
    cases b with
    | true =>
      refine ⟨x :: ys, S2, s2.cons₂ _, ?_, n1.trans n2⟩
      rw [List.map_cons]
      unfold lcS
      rw [e1]
      simp only [if_true]
      rw [e2]
      rfl
    | false =>
      refine ⟨ys, S2, s2.cons _, ?_, n1.trans n2⟩
      rw [List.map_cons]
      unfold lcS
      rw [e1]
      simp only [Bool.false_eq_true, if_false]
      exact e2
theorem eLc_eff {β : Nat} {γ : Type} {vs : List Nat} {mi : EI} {g : Tg} {t : T} {e : E} {ρ : Env} {S S1 : Sto} {ds : List D} {out : γ → D} (Q : γ → Prop) (hi : mi ρ S = .ok (.st ds) S1) (hn : Nxt β S S1) (hf : ∀ d ∈ ds, ∀ S, Bg β S → ∃ b S', lcT g t e (wipeE ρ vs) d S = .ok (some (out b)) S' ∧ Q b ∧ Nxt β S S') (hl : ds.length ≤ 16777216) : ∃ (bs : List γ) (S' : Sto), eLc vs mi g t e ρ S = .ok (.lst (bs.map out)) S' ∧ (∀ b ∈ bs, Q b) ∧ bs.length = ds.length ∧ Nxt β S S' := by
  obtain ⟨bs, S', e1, q, l, n⟩ := lcS_eff Q ds S1 hf hn.1
  refine ⟨bs, S', ?_, q, l, hn.trans n⟩
  show ((mi ρ S).bind fun src S => _) = _
  rw [hi]
  show (match lcRun (lcT g t e (wipeE ρ vs)) (.st ds) S1 with | .ok ys S' => if fits ys.length = true then R.ok (D.lst ys) S' else .bad | _ => .bad) = _
  have e1 : lcRun (lcT g t e (wipeE ρ vs)) (.st ds) S1 = .ok (bs.map out) S' := e1
  rw [e1]
  show (if fits (bs.map out).length = true then R.ok (D.lst (bs.map out)) S' else .bad) = _
  rw [if_pos (fits_of (by rw [List.length_map]; omega))]
theorem eLc_sub {β : Nat} {α : Type} {vs : List Nat} {mi : EI} {g : Tg} {t : T} {e : E} {ρ : Env} {S S1 : Sto} {emb out : α → D} {xs : List α} (hi : mi ρ S = .ok (.st (xs.map emb)) S1) (hn : Nxt β S S1) (hf : ∀ x ∈ xs, ∀ S, Bg β S → ∃ (b : Bool) (S' : Sto), lcT g t e (wipeE ρ vs) (emb x) S = .ok (if b = true then some (out x) else none) S' ∧ Nxt β S S') (hl : xs.length ≤ 16777216) : ∃ (ys : List α) (S' : Sto), ys.Sublist xs ∧ eLc vs mi g t e ρ S = .ok (.lst (ys.map out)) S' ∧ Nxt β S S' := by
  obtain ⟨ys, S', s, e1, n⟩ := lcS_sub xs S1 hf hn.1
  refine ⟨ys, S', s, ?_, hn.trans n⟩
  show ((mi ρ S).bind fun src S => _) = _
  rw [hi]
  show (match lcRun (lcT g t e (wipeE ρ vs)) (.st (xs.map emb)) S1 with | .ok ys S' => if fits ys.length = true then R.ok (D.lst ys) S' else .bad | _ => .bad) = _
  have e1 : lcRun (lcT g t e (wipeE ρ vs)) (.st (xs.map emb)) S1 = .ok (ys.map out) S' := e1
  rw [e1]
  show (if fits (ys.map out).length = true then R.ok (D.lst (ys.map out)) S' else .bad) = _
  rw [if_pos (fits_of (by rw [List.length_map]; have := s.length_le; omega))]
end Z

/-! ZM: rows of numbers, drawn maps. -/
namespace Z
open PySem PySem.Spec PyProof PyProof.Rows L2
def nD (i : Nat) : D := .int i
def cellsD (l : List Nat) : D := .tup (l.map nD)
def cpD (p : Nat × Nat) : D := .tup [nD p.1, nD p.2]
theorem nrfs_nat : ∀ l : List Nat, nrfs (l.map nD) = true
  | [] => rfl
  | _ :: l => by rw [List.map_cons, nrfs, nrfs_nat l]; rfl
theorem nrfs_cp : ∀ l : List (Nat × Nat), nrfs (l.map cpD) = true
  | [] => rfl
  | _ :: l => by rw [List.map_cons, nrfs, nrfs_cp l]; rfl
theorem shps_nat (n : Nat) : ∀ l : List Nat, shps (n + 1) (l.map nD) = true
  | [] => by simp [shps]
  | _ :: l => by rw [List.map_cons, shps, shps_nat n l]; simp [nD, shp]
theorem shps_cp (n : Nat) : ∀ l : List (Nat × Nat), shps (n + 2) (l.map cpD) = true
  | [] => by simp [shps]
  | _ :: l => by rw [List.map_cons, shps, shps_cp n l]; simp [cpD, nD, shp, shps]
theorem any_nat (c : Nat) : ∀ l : List Nat, (l.map nD).any (fun z => eqv z (nD c)) = l.contains c
  | [] => rfl
  | x :: l => by
    rw [List.map_cons, List.any_cons, any_nat c l, List.contains_cons]
    congr 1
    simp only [nD, eqv]
    rw [Bool.eq_iff_iff]
    simp
    exact ⟨fun h => by omega, fun h => by omega⟩
theorem z_inN {c : Nat} {l : List Nat} {S : Sto} : oIn (nD c) (cellsD l) S = .ok (.bl (l.contains c)) S := by
  unfold cellsD
  rw [z_inT rfl rfl (by rw [shp]; exact shps_nat 59 l), any_nat]
theorem eqv_lst_nil : ∀ l : List D, eqv (.lst l) (.lst []) = l.isEmpty
  | [] => rfl
  | _ :: _ => rfl
theorem z_neN {l : List Nat} {S : Sto} : oNe (.lst (l.map nD)) (.lst []) S = .ok (.bl (!l.isEmpty)) S := by
  show (if shp 60 (.lst (l.map nD)) = true ∧ shp 60 (.lst []) = true then R.ok (D.bl (!eqv (.lst (l.map nD)) (.lst []))) S else .bad) = _
  rw [if_pos ⟨by rw [shp]; exact shps_nat 59 l, rfl⟩, eqv_lst_nil]
  cases l <;> rfl
theorem z_eqB {a b : Bool} {S : Sto} : oEq (.bl a) (.bl b) S = .ok (.bl (a == b)) S := by cases a <;> cases b <;> rfl
def m_couples : C := (sSeq (sSet 1 (eLstR aNil)) (sSeq (sFor (iRg1 (aCons (eVar 0) aNil)) (gN 2) (sE (eMt tyL oExtend (eVar 1) (aCons (eLc [3] (iRg2 (aCons (eOp oAdd (eVar 2) (eC (.int 1))) (aCons (eVar 0) aNil))) (gN 3) tYs (eTup (aCons (eVar 2) (aCons (eVar 3) aNil)))) aNil)))) (sRet (eVar 1))))
def f_couples : Fn := fnA (fnS 1 4 m_couples)
def couplesL (n : Nat) : List (Nat × Nat) := (List.range n).flatMap fun a => (List.range' (a + 1) (n - (a + 1))).map fun b => (a, b)
theorem couples_ok {n : Nat} (h : n ≤ 8) (S : Sto) : f_couples [nD n] S = .ok (.lst ((couplesL n).map cpD)) S := by
  have : n = 0 ∨ n = 1 ∨ n = 2 ∨ n = 3 ∨ n = 4 ∨ n = 5 ∨ n = 6 ∨ n = 7 ∨ n = 8 := by omega
  rcases this with rfl | rfl | rfl | rfl | rfl | rfl | rfl | rfl | rfl <;> rfl
theorem couples_lt {n : Nat} {p : Nat × Nat} (h : p ∈ couplesL n) : p.1 < p.2 ∧ p.2 < n := by
  unfold couplesL at h
  obtain ⟨a, ha, h⟩ := List.mem_flatMap.mp h
  obtain ⟨b, hb, rfl⟩ := List.mem_map.mp h
  have ha := List.mem_range.mp ha
  obtain ⟨h1, h2⟩ := List.mem_range'_1.mp hb
  exact ⟨by show a < b; omega, by show b < n; omega⟩
/-- a zone: its name, its cells -/
abbrev Zn := List Nat × List Nat
def znD (z : Zn) : D := .tup [.str z.1, .tup (z.2.map nD)]
def gmD (n : Nat) (sm : List (Nat × Nat)) (zs : List Zn) : D := .tup [nD n, .tup (sm.map cpD), .tup (zs.map znD)]
def m_map : C := (sSeq (sSet 3 (eOp oAdd (eC (.int 1)) (eCall 2 f_take (aCons (eVar 0) (aCons (eVar 2) aNil))))) (sSeq (sSet 4 (eB oTuple (aCons (eLc [8] (iSrc (eCall 1 f_couples (aCons (eVar 3) aNil))) (gN 8) (toB (eOp (oCmp .Lt) (eCall 2 f_take (aCons (eVar 0) (aCons (eC (.int 5)) aNil))) (eC (.int 2)))) (eVar 8)) aNil))) (sSeq (sSet 5 (eLstR aNil)) (sSeq (sFor (iSrc (eVar 1)) (gN 6) (sSeq (sSet 7 (eLc [9] (iRg1 (aCons (eVar 3) aNil)) (gN 9) (toB (eOp oEq (eCall 2 f_take (aCons (eVar 0) (aCons (eC (.int 2)) aNil))) (eC (.int 0)))) (eVar 9))) (sE (eMt tyL oAppend (eVar 5) (aCons (eTup (aCons (eVar 6) (aCons (eB oTuple (aCons (eIf (toB (eOp oNe (eVar 7) (eLst aNil))) (eVar 7) (eLst (aCons (eCall 2 f_take (aCons (eVar 0) (aCons (eVar 3) aNil))) aNil))) aNil)) aNil))) aNil))))) (sRet (eTup (aCons (eVar 3) (aCons (eVar 4) (aCons (eB oTuple (aCons (eVar 5) aNil)) aNil)))))))))
def f_map : Fn := fnS 3 10 m_map
theorem take_nat {β : Nat} {S : Sto} {many : Nat} (h : Bg β S) (h0 : 0 < many) (h1 : many < 1073741824) : ∃ (v : Nat) (S' : Sto), f_take [.ref β, .int many] S = .ok (.int v) S' ∧ v < many ∧ Nxt β S S' := by
  obtain ⟨v, S', e, a, b, c⟩ := take_ok (many := (many : Int)) h (by omega) (by omega)
  obtain ⟨k, rfl⟩ := Int.eq_ofNat_of_zero_le a
  exact ⟨k, S', e, by omega, c⟩
theorem Nxt.setk {β : Nat} {S S' : Sto} {k : Nat} {o : O} (n : Nxt β S S') (hk : S.len ≤ k) (h0 : k ≠ β) : Nxt β S (S'.set k o) := by
  obtain ⟨a, b, c⟩ := Nxt.set (o := o) n.1 h0
  exact ⟨a, by rw [b]; exact n.2.1, fun i hi hn => (c i (by omega)).trans (n.2.2 i hi hn)⟩
theorem app_k {S : Sto} {k : Nat} {l : List D} {d : D} (e : S.get k = some (.lst l)) (h : l.length + 1 ≤ 16777216) : oAppend (.ref k) [d] S = .ok .non (S.set k (.lst (l ++ [d]))) := by
  have : refL (.ref k) S = some (k, l) := by unfold refL; dsimp only; rw [e]
  unfold oAppend
  rw [this]
  dsimp only
  rw [if_pos (fits_of h)]
theorem ext_k {S : Sto} {k : Nat} {l f : List D} (e : S.get k = some (.lst l)) (h : l.length + f.length ≤ 16777216) : oExtend (.ref k) [.lst f] S = .ok .non (S.set k (.lst (l ++ f))) := by
  have : refL (.ref k) S = some (k, l) := by unfold refL; dsimp only; rw [e]
  unfold oExtend
  rw [this]
  show (if fits (l.length + f.length) = true then R.ok D.non (S.set k (.lst (l ++ f))) else .bad) = _
  rw [if_pos (fits_of h)]
theorem tyL_k {S : Sto} {k : Nat} {l : List D} (e : S.get k = some (.lst l)) : tyL (.ref k) S = true := by
  unfold tyL rd
  dsimp only
  rw [e]
theorem tup_k {S : Sto} {k : Nat} {l : List D} (e : S.get k = some (.lst l)) : oTuple [.ref k] S = .ok (.tup l) S := by
  unfold oTuple rd
  dsimp only
  rw [e]
theorem rg1_nat {n : Nat} {ma : As} {ρ : Env} {S S' : Sto} (h : ma ρ S = .ok [nD n] S') (hn : n ≤ 16777216) : iRg1 ma ρ S = .ok (.st ((List.range n).map nD)) S' := by
  unfold iRg1
  rw [h]
  show (if small (n : Int) = true then R.ok (Src.st (irow 0 (n : Int).toNat)) S' else .bad) = _
  rw [if_pos (small_nat hn), Int.toNat_natCast, irow_0]
  rfl
/-- a zone drawn -/
def ZOk (n : Nat) (z : Zn) : Prop := z.2 ≠ [] ∧ z.2.Sublist (List.range n)
theorem sub_one {n c : Nat} (h : c < n) : [c].Sublist (List.range n) := List.singleton_sublist.mpr (List.mem_range.mpr h)
theorem map_ok {β : Nat} {S : Sto} {names : List (List Nat)} {most : Nat} (h : Bg β S) (hm : 1 ≤ most) (hm8 : most ≤ 8) (hn : names.length ≤ 100) : ∃ (n : Nat) (sm : List (Nat × Nat)) (zs : List Zn) (S' : Sto), f_map [.ref β, .tup (names.map .str), nD most] S = .ok (gmD n sm zs) S' ∧ 1 ≤ n ∧ n ≤ most ∧ sm.Sublist (couplesL n) ∧ zs.map (·.1) = names ∧ (∀ z ∈ zs, ZOk n z) ∧ Nxt β S S' := by
  obtain ⟨v, S1, e1, hv, n1⟩ := take_nat (many := most) h (by omega) (by omega)
  obtain ⟨n, hnv⟩ : ∃ n, n = 1 + v := ⟨_, rfl⟩
  have en : ((1 : Int) + (v : Int)) = ((n : Nat) : Int) := by omega
  obtain ⟨sm, S2, hsub, e2, n2⟩ := eLc_sub (vs := [8]) (mi := iSrc (eCall 1 f_couples (aCons (eVar 3) aNil))) (g := gN 8) (t := toB (eOp (oCmp .Lt) (eCall 2 f_take (aCons (eVar 0) (aCons (eC (.int 5)) aNil))) (eC (.int 2)))) (e := eVar 8) (ρ := [some (.ref β), some (.tup (names.map .str)), some (nD most), some (nD n), none, none, none, none, none, none]) (S := S1) (S1 := S1) (emb := cpD) (out := cpD) (xs := couplesL n) (by simp only [fnS, env0, sSeq, sSet, sRet, sRetN, sIf, sE, sAsg, sPar, sNx, sPut, R.toS, R.bind, eVar, eC, eOp, eTup, eLst, eLstR, aCons, aNil, eIf, eAn, eOr, eNt, eIsi, toB, tNt, tAn, tOr_, tYs, eCall, eCall0, eB, eMt, eMt0, iSrc, iRg1, iRg2, iEn, iZp, gN, gT, gsCons, gsNil, turnS, List.map_cons, List.map_nil, List.length_cons, List.length_nil, List.replicate, List.cons_append, List.nil_append, List.getElem?_cons_zero, List.getElem?_cons_succ, List.set_cons_zero, List.set_cons_succ, Nat.sub_self, Nat.reduceSub, Nat.reduceAdd, if_true, Bool.false_eq_true, if_false, ite_true, ite_false, List.cons.injEq, and_false, false_and, true_and, and_true, decide_false, decide_true, Bool.not_true, Bool.not_false, Bool.true_and, Bool.false_and, Bool.and_true, Bool.and_false, Bool.or_false, Bool.or_true, Bool.false_or, Bool.true_or, Nat.reduceEqDiff, reduceCtorEq, eSl, pSome, pNone, lcT, wipeE, fits_0, fits_1, fits_2, fits_3, fits_4, couples_ok (show n ≤ 8 by omega), srcOf]) (Nxt.refl n1.1) (fun x hx S hS => by
    obtain ⟨w, S', e, _, nx⟩ := take_nat (many := 5) hS (by decide) (by decide)
    have e : f_take [.ref β, .int 5] S = .ok (.int w) S' := e
    refine ⟨decide ((w : Int) < 2), S', ?_, nx⟩
    simp only [fnS, env0, sSeq, sSet, sRet, sRetN, sIf, sE, sAsg, sPar, sNx, sPut, R.toS, R.bind, eVar, eC, eOp, eTup, eLst, eLstR, aCons, aNil, eIf, eAn, eOr, eNt, eIsi, toB, tNt, tAn, tOr_, tYs, eCall, eCall0, eB, eMt, eMt0, iSrc, iRg1, iRg2, iEn, iZp, gN, gT, gsCons, gsNil, turnS, List.map_cons, List.map_nil, List.length_cons, List.length_nil, List.replicate, List.cons_append, List.nil_append, List.getElem?_cons_zero, List.getElem?_cons_succ, List.set_cons_zero, List.set_cons_succ, Nat.sub_self, Nat.reduceSub, Nat.reduceAdd, if_true, Bool.false_eq_true, if_false, ite_true, ite_false, List.cons.injEq, and_false, false_and, true_and, and_true, decide_false, decide_true, Bool.not_true, Bool.not_false, Bool.true_and, Bool.false_and, Bool.and_true, Bool.and_false, Bool.or_false, Bool.or_true, Bool.false_or, Bool.true_or, Nat.reduceEqDiff, reduceCtorEq, eSl, pSome, pNone, lcT, wipeE, fits_0, fits_1, fits_2, fits_3, fits_4, e, z_lt]
    cases decide ((w : Int) < 2) <;> rfl) (by
    have : n = 0 ∨ n = 1 ∨ n = 2 ∨ n = 3 ∨ n = 4 ∨ n = 5 ∨ n = 6 ∨ n = 7 ∨ n = 8 := by omega
    rcases this with rfl | rfl | rfl | rfl | rfl | rfl | rfl | rfl | rfl <;> decide)
  have n3 : Nxt β S2 (S2.push (.lst [])) := Nxt.push n2.1
  have hk0 : S2.len ≠ β := by have := n2.1.lt; omega
  have nS2 : Nxt β S S2 := n1.trans n2
  have key := forS_inv (emb := D.str) (turn := turnS (gN 6) (sSeq (sSet 7 (eLc [9] (iRg1 (aCons (eVar 3) aNil)) (gN 9) (toB (eOp oEq (eCall 2 f_take (aCons (eVar 0) (aCons (eC (.int 2)) aNil))) (eC (.int 0)))) (eVar 9))) (sE (eMt tyL oAppend (eVar 5) (aCons (eTup (aCons (eVar 6) (aCons (eB oTuple (aCons (eIf (toB (eOp oNe (eVar 7) (eLst aNil))) (eVar 7) (eLst (aCons (eCall 2 f_take (aCons (eVar 0) (aCons (eVar 3) aNil))) aNil))) aNil)) aNil))) aNil)))))
    (fun done ρ S' => (∃ r6 r7, ρ = [some (.ref β), some (.tup (names.map .str)), some (nD most), some (nD n), some (.tup (sm.map cpD)), some (.ref S2.len), r6, r7, none, none]) ∧ Nxt β S2 S' ∧ ∃ zs : List Zn, zs.map (·.1) = done ∧ (∀ z ∈ zs, ZOk n z) ∧ S'.get S2.len = some (.lst (zs.map znD)))
    names [some (.ref β), some (.tup (names.map .str)), some (nD most), some (nD n), some (.tup (sm.map cpD)), some (.ref S2.len), none, none, none, none] (S2.push (.lst [])) ?_ ⟨⟨none, none, rfl⟩, n3, [], rfl, by simp, Sto.get_push_self⟩
  · obtain ⟨ρ', S', e, ⟨r6, r7, eρ⟩, nx, zs, hz1, hz2, hz3⟩ := key
    refine ⟨n, sm, zs, S', ?_, by omega, by omega, hsub, hz1, hz2, nS2.trans nx⟩
    refine fn_rt ?_
    unfold m_map
    refine sq_nx (st_set (d := nD n) (S' := S1) ?_) ?_
    · simp only [fnS, env0, sSeq, sSet, sRet, sRetN, sIf, sE, sAsg, sPar, sNx, sPut, R.toS, R.bind, eVar, eC, eOp, eTup, eLst, eLstR, aCons, aNil, eIf, eAn, eOr, eNt, eIsi, toB, tNt, tAn, tOr_, tYs, eCall, eCall0, eB, eMt, eMt0, iSrc, iRg1, iRg2, iEn, iZp, gN, gT, gsCons, gsNil, turnS, List.map_cons, List.map_nil, List.length_cons, List.length_nil, List.replicate, List.cons_append, List.nil_append, List.getElem?_cons_zero, List.getElem?_cons_succ, List.set_cons_zero, List.set_cons_succ, Nat.sub_self, Nat.reduceSub, Nat.reduceAdd, if_true, Bool.false_eq_true, if_false, ite_true, ite_false, List.cons.injEq, and_false, false_and, true_and, and_true, decide_false, decide_true, Bool.not_true, Bool.not_false, Bool.true_and, Bool.false_and, Bool.and_true, Bool.and_false, Bool.or_false, Bool.or_true, Bool.false_or, Bool.true_or, Nat.reduceEqDiff, reduceCtorEq, eSl, pSome, pNone, lcT, wipeE, fits_0, fits_1, fits_2, fits_3, fits_4, env0, nD, e1, z_addI, en]
    refine sq_nx (st_set (d := .tup (sm.map cpD)) (S' := S2) ?_) ?_
    · show (eB oTuple (aCons _ aNil)) [some (.ref β), some (.tup (names.map .str)), some (nD most), some (nD n), none, none, none, none, none, none] S1 = _
      revert e2
      generalize eLc _ _ _ _ _ = E
      intro e2
      simp only [fnS, env0, sSeq, sSet, sRet, sRetN, sIf, sE, sAsg, sPar, sNx, sPut, R.toS, R.bind, eVar, eC, eOp, eTup, eLst, eLstR, aCons, aNil, eIf, eAn, eOr, eNt, eIsi, toB, tNt, tAn, tOr_, tYs, eCall, eCall0, eB, eMt, eMt0, iSrc, iRg1, iRg2, iEn, iZp, gN, gT, gsCons, gsNil, turnS, List.map_cons, List.map_nil, List.length_cons, List.length_nil, List.replicate, List.cons_append, List.nil_append, List.getElem?_cons_zero, List.getElem?_cons_succ, List.set_cons_zero, List.set_cons_succ, Nat.sub_self, Nat.reduceSub, Nat.reduceAdd, if_true, Bool.false_eq_true, if_false, ite_true, ite_false, List.cons.injEq, and_false, false_and, true_and, and_true, decide_false, decide_true, Bool.not_true, Bool.not_false, Bool.true_and, Bool.false_and, Bool.and_true, Bool.and_false, Bool.or_false, Bool.or_true, Bool.false_or, Bool.true_or, Nat.reduceEqDiff, reduceCtorEq, eSl, pSome, pNone, lcT, wipeE, fits_0, fits_1, fits_2, fits_3, fits_4, e2]
      rfl
    refine sq_nx (st_set (d := .ref S2.len) (S' := S2.push (.lst [])) rfl) ?_
    refine sq_nx (st_for (S := S2.push (.lst [])) (ds := names.map .str) (by simp only [fnS, env0, sSeq, sSet, sRet, sRetN, sIf, sE, sAsg, sPar, sNx, sPut, R.toS, R.bind, eVar, eC, eOp, eTup, eLst, eLstR, aCons, aNil, eIf, eAn, eOr, eNt, eIsi, toB, tNt, tAn, tOr_, tYs, eCall, eCall0, eB, eMt, eMt0, iSrc, iRg1, iRg2, iEn, iZp, gN, gT, gsCons, gsNil, turnS, List.map_cons, List.map_nil, List.length_cons, List.length_nil, List.replicate, List.cons_append, List.nil_append, List.getElem?_cons_zero, List.getElem?_cons_succ, List.set_cons_zero, List.set_cons_succ, Nat.sub_self, Nat.reduceSub, Nat.reduceAdd, if_true, Bool.false_eq_true, if_false, ite_true, ite_false, List.cons.injEq, and_false, false_and, true_and, and_true, decide_false, decide_true, Bool.not_true, Bool.not_false, Bool.true_and, Bool.false_and, Bool.and_true, Bool.and_false, Bool.or_false, Bool.or_true, Bool.false_or, Bool.true_or, Nat.reduceEqDiff, reduceCtorEq, eSl, pSome, pNone, lcT, wipeE, fits_0, fits_1, fits_2, fits_3, fits_4, srcOf]) e) ?_
    subst eρ
    refine st_ret ?_
    simp only [fnS, env0, sSeq, sSet, sRet, sRetN, sIf, sE, sAsg, sPar, sNx, sPut, R.toS, R.bind, eVar, eC, eOp, eTup, eLst, eLstR, aCons, aNil, eIf, eAn, eOr, eNt, eIsi, toB, tNt, tAn, tOr_, tYs, eCall, eCall0, eB, eMt, eMt0, iSrc, iRg1, iRg2, iEn, iZp, gN, gT, gsCons, gsNil, turnS, List.map_cons, List.map_nil, List.length_cons, List.length_nil, List.replicate, List.cons_append, List.nil_append, List.getElem?_cons_zero, List.getElem?_cons_succ, List.set_cons_zero, List.set_cons_succ, Nat.sub_self, Nat.reduceSub, Nat.reduceAdd, if_true, Bool.false_eq_true, if_false, ite_true, ite_false, List.cons.injEq, and_false, false_and, true_and, and_true, decide_false, decide_true, Bool.not_true, Bool.not_false, Bool.true_and, Bool.false_and, Bool.and_true, Bool.and_false, Bool.or_false, Bool.or_true, Bool.false_or, Bool.true_or, Nat.reduceEqDiff, reduceCtorEq, eSl, pSome, pNone, lcT, wipeE, fits_0, fits_1, fits_2, fits_3, fits_4, tup_k hz3, show fits 3 = true from rfl, gmD]
  · rintro done x rest ρ S' hw ⟨⟨r6, r7, rfl⟩, nx, zs, hz1, hz2, hz3⟩
    have hlz : zs.length ≤ 100 := by
      have a := congrArg List.length hz1
      have b := congrArg List.length hw
      simp at a b
      omega
    have hkl : S2.len < S'.len := Sto.get_lt hz3
    obtain ⟨cs, S3, hcs, e3, nx3⟩ := eLc_sub (vs := [9]) (mi := iRg1 (aCons (eVar 3) aNil)) (g := gN 9) (t := toB (eOp oEq (eCall 2 f_take (aCons (eVar 0) (aCons (eC (.int 2)) aNil))) (eC (.int 0)))) (e := eVar 9) (ρ := [some (.ref β), some (.tup (names.map .str)), some (nD most), some (nD n), some (.tup (sm.map cpD)), some (.ref S2.len), some (.str x), r7, none, none]) (S := S') (S1 := S') (emb := nD) (out := nD) (xs := List.range n) (rg1_nat (by simp only [fnS, env0, sSeq, sSet, sRet, sRetN, sIf, sE, sAsg, sPar, sNx, sPut, R.toS, R.bind, eVar, eC, eOp, eTup, eLst, eLstR, aCons, aNil, eIf, eAn, eOr, eNt, eIsi, toB, tNt, tAn, tOr_, tYs, eCall, eCall0, eB, eMt, eMt0, iSrc, iRg1, iRg2, iEn, iZp, gN, gT, gsCons, gsNil, turnS, List.map_cons, List.map_nil, List.length_cons, List.length_nil, List.replicate, List.cons_append, List.nil_append, List.getElem?_cons_zero, List.getElem?_cons_succ, List.set_cons_zero, List.set_cons_succ, Nat.sub_self, Nat.reduceSub, Nat.reduceAdd, if_true, Bool.false_eq_true, if_false, ite_true, ite_false, List.cons.injEq, and_false, false_and, true_and, and_true, decide_false, decide_true, Bool.not_true, Bool.not_false, Bool.true_and, Bool.false_and, Bool.and_true, Bool.and_false, Bool.or_false, Bool.or_true, Bool.false_or, Bool.true_or, Nat.reduceEqDiff, reduceCtorEq, eSl, pSome, pNone, lcT, wipeE, fits_0, fits_1, fits_2, fits_3, fits_4]) (by omega)) (Nxt.refl nx.1) (fun x hx S hS => by
      obtain ⟨w, S', e, _, nx⟩ := take_nat (many := 2) hS (by decide) (by decide)
      have e : f_take [.ref β, .int 2] S = .ok (.int w) S' := e
      refine ⟨decide ((w : Int) = 0), S', ?_, nx⟩
      simp only [fnS, env0, sSeq, sSet, sRet, sRetN, sIf, sE, sAsg, sPar, sNx, sPut, R.toS, R.bind, eVar, eC, eOp, eTup, eLst, eLstR, aCons, aNil, eIf, eAn, eOr, eNt, eIsi, toB, tNt, tAn, tOr_, tYs, eCall, eCall0, eB, eMt, eMt0, iSrc, iRg1, iRg2, iEn, iZp, gN, gT, gsCons, gsNil, turnS, List.map_cons, List.map_nil, List.length_cons, List.length_nil, List.replicate, List.cons_append, List.nil_append, List.getElem?_cons_zero, List.getElem?_cons_succ, List.set_cons_zero, List.set_cons_succ, Nat.sub_self, Nat.reduceSub, Nat.reduceAdd, if_true, Bool.false_eq_true, if_false, ite_true, ite_false, List.cons.injEq, and_false, false_and, true_and, and_true, decide_false, decide_true, Bool.not_true, Bool.not_false, Bool.true_and, Bool.false_and, Bool.and_true, Bool.and_false, Bool.or_false, Bool.or_true, Bool.false_or, Bool.true_or, Nat.reduceEqDiff, reduceCtorEq, eSl, pSome, pNone, lcT, wipeE, fits_0, fits_1, fits_2, fits_3, fits_4, e, z_eqi]
      cases decide ((w : Int) = 0) <;> rfl) (by rw [List.length_range]; omega)
    have hz4 : S3.get S2.len = some (.lst (zs.map znD)) := (nx3.2.2 _ hkl hk0).trans hz3
    obtain ⟨cs', S4, hc1, hc2, hz5, nx4, e4⟩ : ∃ (cs' : List Nat) (S4 : Sto), cs' ≠ [] ∧ cs'.Sublist (List.range n) ∧ S4.get S2.len = some (.lst (zs.map znD)) ∧ Nxt β S3 S4 ∧ eIf (toB (eOp oNe (eVar 7) (eLst aNil))) (eVar 7) (eLst (aCons (eCall 2 f_take (aCons (eVar 0) (aCons (eVar 3) aNil))) aNil)) [some (.ref β), some (.tup (names.map .str)), some (nD most), some (nD n), some (.tup (sm.map cpD)), some (.ref S2.len), some (.str x), some (.lst (cs.map nD)), none, none] S3 = .ok (.lst (cs'.map nD)) S4 := by
      by_cases he : cs = []
      · subst he
        obtain ⟨w, S4, e, hw, nx4⟩ := take_nat (many := n) nx3.1 (by omega) (by omega)
        have e : f_take [.ref β, nD n] S3 = .ok (.int w) S4 := e
        refine ⟨[w], S4, by simp, sub_one hw, (nx4.2.2 _ (Nat.lt_of_lt_of_le hkl nx3.2.1) hk0).trans hz4, nx4, ?_⟩
        simp only [fnS, env0, sSeq, sSet, sRet, sRetN, sIf, sE, sAsg, sPar, sNx, sPut, R.toS, R.bind, eVar, eC, eOp, eTup, eLst, eLstR, aCons, aNil, eIf, eAn, eOr, eNt, eIsi, toB, tNt, tAn, tOr_, tYs, eCall, eCall0, eB, eMt, eMt0, iSrc, iRg1, iRg2, iEn, iZp, gN, gT, gsCons, gsNil, turnS, List.map_cons, List.map_nil, List.length_cons, List.length_nil, List.replicate, List.cons_append, List.nil_append, List.getElem?_cons_zero, List.getElem?_cons_succ, List.set_cons_zero, List.set_cons_succ, Nat.sub_self, Nat.reduceSub, Nat.reduceAdd, if_true, Bool.false_eq_true, if_false, ite_true, ite_false, List.cons.injEq, and_false, false_and, true_and, and_true, decide_false, decide_true, Bool.not_true, Bool.not_false, Bool.true_and, Bool.false_and, Bool.and_true, Bool.and_false, Bool.or_false, Bool.or_true, Bool.false_or, Bool.true_or, Nat.reduceEqDiff, reduceCtorEq, eSl, pSome, pNone, lcT, wipeE, fits_0, fits_1, fits_2, fits_3, fits_4, show fits 0 = true from rfl, show ∀ S, oNe (.lst []) (.lst []) S = .ok (.bl false) S from fun _ => rfl, e, show fits 1 = true from rfl]
        rfl
      · refine ⟨cs, S3, he, hcs, hz4, Nxt.refl nx3.1, ?_⟩
        have : cs.isEmpty = false := by cases cs with
          | nil => exact absurd rfl he
          | cons _ _ => rfl
        simp only [fnS, env0, sSeq, sSet, sRet, sRetN, sIf, sE, sAsg, sPar, sNx, sPut, R.toS, R.bind, eVar, eC, eOp, eTup, eLst, eLstR, aCons, aNil, eIf, eAn, eOr, eNt, eIsi, toB, tNt, tAn, tOr_, tYs, eCall, eCall0, eB, eMt, eMt0, iSrc, iRg1, iRg2, iEn, iZp, gN, gT, gsCons, gsNil, turnS, List.map_cons, List.map_nil, List.length_cons, List.length_nil, List.replicate, List.cons_append, List.nil_append, List.getElem?_cons_zero, List.getElem?_cons_succ, List.set_cons_zero, List.set_cons_succ, Nat.sub_self, Nat.reduceSub, Nat.reduceAdd, if_true, Bool.false_eq_true, if_false, ite_true, ite_false, List.cons.injEq, and_false, false_and, true_and, and_true, decide_false, decide_true, Bool.not_true, Bool.not_false, Bool.true_and, Bool.false_and, Bool.and_true, Bool.and_false, Bool.or_false, Bool.or_true, Bool.false_or, Bool.true_or, Nat.reduceEqDiff, reduceCtorEq, eSl, pSome, pNone, lcT, wipeE, fits_0, fits_1, fits_2, fits_3, fits_4, show fits 0 = true from rfl, z_neN, this]
    have nxA : Nxt β S2 S4 := nx.trans (nx3.trans nx4)
    refine ⟨[some (.ref β), some (.tup (names.map .str)), some (nD most), some (nD n), some (.tup (sm.map cpD)), some (.ref S2.len), some (.str x), some (.lst (cs.map nD)), none, none], S4.set S2.len (.lst (zs.map znD ++ [znD (x, cs')])), ?_, ⟨_, _, rfl⟩, nxA.setk (Nat.le_refl _) hk0, zs ++ [(x, cs')], by rw [List.map_append, hz1]; rfl, ?_, ?_⟩
    · refine sq_nx (st_set (d := .lst (cs.map nD)) (S' := S3) e3) (st_e (d := .non) ?_)
      have ha : oAppend (.ref S2.len) [znD (x, cs')] S4 = .ok .non (S4.set S2.len (.lst (zs.map znD ++ [znD (x, cs')]))) := app_k hz5 (by rw [List.length_map]; omega)
      show (eMt tyL oAppend (eVar 5) (aCons (eTup (aCons (eVar 6) (aCons (eB oTuple (aCons _ aNil)) aNil))) aNil)) [some (.ref β), some (.tup (names.map .str)), some (nD most), some (nD n), some (.tup (sm.map cpD)), some (.ref S2.len), some (.str x), some (.lst (cs.map nD)), none, none] S3 = _
      revert e4
      generalize eIf _ _ _ = E
      intro e4
      simp only [fnS, env0, sSeq, sSet, sRet, sRetN, sIf, sE, sAsg, sPar, sNx, sPut, R.toS, R.bind, eVar, eC, eOp, eTup, eLst, eLstR, aCons, aNil, eIf, eAn, eOr, eNt, eIsi, toB, tNt, tAn, tOr_, tYs, eCall, eCall0, eB, eMt, eMt0, iSrc, iRg1, iRg2, iEn, iZp, gN, gT, gsCons, gsNil, turnS, List.map_cons, List.map_nil, List.length_cons, List.length_nil, List.replicate, List.cons_append, List.nil_append, List.getElem?_cons_zero, List.getElem?_cons_succ, List.set_cons_zero, List.set_cons_succ, Nat.sub_self, Nat.reduceSub, Nat.reduceAdd, if_true, Bool.false_eq_true, if_false, ite_true, ite_false, List.cons.injEq, and_false, false_and, true_and, and_true, decide_false, decide_true, Bool.not_true, Bool.not_false, Bool.true_and, Bool.false_and, Bool.and_true, Bool.and_false, Bool.or_false, Bool.or_true, Bool.false_or, Bool.true_or, Nat.reduceEqDiff, reduceCtorEq, eSl, pSome, pNone, lcT, wipeE, fits_0, fits_1, fits_2, fits_3, fits_4, tyL_k hz4, e4, show ∀ l S, oTuple [.lst l] S = .ok (.tup l) S from fun _ _ => rfl, show fits 2 = true from rfl]
      exact ha
    · intro z hz
      rcases List.mem_append.mp hz with h | h
      · exact hz2 z h
      · rw [List.mem_singleton] at h; subst h; exact ⟨hc1, hc2⟩
    · rw [List.map_append]
      exact Sto.get_set_self nxA.1.1 (Nat.lt_of_lt_of_le hkl (Nat.le_trans nx3.2.1 nx4.2.1))
end Z

/-! ZE: own exceptions raised and caught. -/
namespace Z
open PySem PySem.Spec PyProof PyProof.Rows L2
/-- what is known of an own exception's class -/
structure ExC (K : PySem.W.Frag) (mg : Str → Option Value) (x : Str) : Prop where
  ex : ∃ C, mg x = some (.ref C) ∧ PySem.W.excIn K C He.veBase "ValueError.__new__" = true ∧ PySem.W.keepIn K (.ref C) = true ∧ PySem.W.subIn K (.ref C) (.type "BaseException") = some true ∧ PySem.W.typeIn K (.ref C) = some (.type "type")
/-- which of the classes the clause of the class y takes -/
def ExM (K : PySem.W.Frag) (mg : Str → Option Value) (y : Str) (tb : List (Str × Bool)) : Prop := ∃ CS, mg y = some (.ref CS) ∧ ∀ p ∈ tb, ∃ C, mg p.1 = some (.ref C) ∧ PySem.W.exmOne K (.ref C) (.ref CS) = some p.2
theorem exC_of {K : PySem.W.Frag} {h : Heap} {mg : Str → Option Value} (X : K.In h) (G : h.Ns mainGlobals mg) {x : Str} (a : (He.Fa.glo x).ok K = true) (b : (He.Fa.exc x).ok K = true) : ExC K mg x :=
  ⟨_, He.glo_ok X G a, He.exc_ok b⟩
section
variable {X : Cx} {pos p : Pos}
/-- raise x() -/
def sRaise (x : Str) : C := fun ρ S => .ex ⟨x, []⟩ ρ S
theorem cs_raise {x : Str} {np : Pos} (h : ExC X.K X.mg x) (hc : X.calm = true) (hg : Gl X x) (hdb : (x == ("__debug__" : Str)) = false := by decide) : CS X (.Raise (some (.Call (.Name x np) [] [] p)) none pos) (sRaise x) := fun W tk => by
  obtain ⟨C, gC, q, kC, b, t⟩ := h.ex
  have mk : PMk X (.Call (.Name x np) [] [] p) (fun _ H Q => Q (.ref C) none H) := by
    intro pins s σ H Q inv want
    refine wpAny_Call_Name_kw (ld_glob inv hg gC (PySem.W.callWith_K0 inv.kIn kC ?_) hdb)
    obtain ⟨bm, N, nm, qn, bs, hdct, sn, sub, ab, col, dd, k0, k1, k2, k3, k5, mN, cls, own, noInit, tail⟩ := exc_obj inv.kIn q
    exact wpAny_call_exc_subT PySem.F.excBase_ValueError tail cls own noInit (fun h' e made => mk_of inv made (raises_own b t) want (inv.hok.gone made.new)) (by show 0 ≤ sizeLine; exact Nat.zero_le _)
  refine PS.imp (ps_raise hc tk mk) fun D σ H ⟨G, ρ, S, rs, re, g⟩ => ?_
  exact g G σ H (.ref C) none Step.refl rs re ⟨C, gC, rfl, .inl ⟨rfl, rfl⟩⟩
/-- try: body / except y: return e -/
def sTry (mb : C) (tb : List (Str × Bool)) (me : E) : C := fun ρ S => match mb ρ S with
  | .ex x ρ' S' => (match tb.lookup x.cls with
    | some true => (match me ρ' S' with
      | .ok d S2 => .rt d S2
      | _ => .bad)
    | some false => .ex x ρ' S'
    | none => .bad)
  | r => r
theorem lookup_in {α : Type} {x : Str} {b : α} : ∀ {tb : List (Str × α)}, tb.lookup x = some b → (x, b) ∈ tb
  | (y, c) :: tb, h => by
    rw [List.lookup_cons] at h
    split at h
    · rename_i e
      have e : x = y := by simpa using e
      cases h
      rw [e]
      exact List.mem_cons_self
    · exact List.mem_cons_of_mem _ (lookup_in h)
theorem cs_try {body : List Stmt} {mb : C} {y : Str} {e : Expr} {me : E} {tb : List (Str × Bool)} {np hp' rp : Pos} (hp : X.stack = X.env :: X.outer) (hf : X.env.frame = some X.env.locals) (hy : Gl X y) (hm : ExM X.K X.mg y tb) (hb : ∀ pn xe, PassesOwn (model X.prog X.w) X.A X.env xe → CSs (X.tr pn xe) body mb)
    (he : ∀ a pn, CE (X.suite a pn) e me) (hdb : (y == ("__debug__" : Str)) = false := by decide) : CS X (.Try body [.ExceptHandler (some (.Name y np)) none [.Return (some e) rp] hp'] [] [] pos) (sTry mb tb me) := fun W tk => by
  obtain ⟨CS', gS, tbs⟩ := hm
  have W0 : WX := fun _ _ _ _ => False
  have tk0 : ∀ (Y : Cx), Takes Y (fun _ _ _ _ => False) := fun _ u s1 ⟨_, _, _, _, _, _, _, _, _, _, _, _, _, _, _, _, no⟩ => no.elim
  refine PS.imp (ps_try_only (X := X) (c := .ref CS') (tb := fun W D σ H => tSv (wd X) mb W D σ H) (ts := fun _ _ _ D σ H => tEv (wd X) me (fun _ _ _ _ => False) σ H D.rt) hp hf ⟨hy, hdb, .inl gS⟩ tk (fun W' pn xe tk' own => hb pn xe own W' tk') (fun a oe cls d pn _ _ => pss_one (ps_ret (he a _ _ (tk0 _))))) ?_
  intro D σ H ⟨G, ρ, S, rs, re, g⟩
  refine ⟨G, ρ, S, rs, re, ?_⟩
  unfold sTry at g
  cases em : mb ρ S with
  | ex x ρ' S' =>
    rw [em] at g
    intro G' σ' H' cls dd st rs' re' ⟨C, gC, ec, fs⟩
    dsimp only at g
    cases el : tb.lookup x.cls with
    | none => rw [el] at g; exact g.elim
    | some b =>
      rw [el] at g
      obtain ⟨C2, gC2, hx⟩ := tbs _ (lookup_in el)
      have eC : C2 = C := by
        have := gC2.symm.trans gC
        injection this with h1
        injection h1
      subst eC
      subst ec
      refine ⟨b, hx, fun hb' a na => ?_, fun hb' => ?_⟩
      · subst hb'
        refine ⟨G', ρ', S', rs', re', ?_⟩
        cases e2 : me ρ' S' with
        | ok d S2 =>
          rw [e2] at g
          exact fun G2 v H2 st2 rs2 q => g G2 v H2 (st.trans st2) rs2 q
        | ex x2 S2 => rw [e2] at g; exact g.elim
        | bad => rw [e2] at g; exact g.elim
      · subst hb'
        exact g G' σ' H' (.ref C2) dd st rs' re' ⟨C2, gC, rfl, fs⟩
  | nx ρ' S' => rw [em] at g; exact g
  | rt d S' => rw [em] at g; exact g
  | bk ρ' S' => rw [em] at g; exact g
  | ct ρ' S' => rw [em] at g; exact g
  | bad => rw [em] at g; exact g
end
end Z

/-! ZL: a lambda without parameters, handed to a def that calls it in a try. -/
namespace Z
open PySem PySem.Spec PyProof PyProof.Rows L2 LamX
/-- the made function object -/
abbrev lamO (X : Cx) (params : Arguments) (body : Expr) (scope : Scope) (pm ctv : Value) (c : Addr) : Obj := PySem.W.kla_obj "<lambda>" (X.env.qual ++ "<lambda>") params body scope (cloFrom X.env.cells scope.names []) pm c ctv
/-- the table's code objects, all of one name -/
def Known (H : Hp) (q : Str) (l : List Value) : Prop := ∀ (p : Pos) (cv : Value), codeAmong p l = some cv → ∃ c, cv = .ref c ∧ H c = some (CodeO c q)
section
variable {X : Cx} {pins : List (Addr × Obj)} {σ : L2.St} {H : Hp} {s : Shared}
/-- what stands tracked behind the making -/
def Made (H : Hp) (P : Addr) (q : Str) (ps : Array Value) (c : Addr) (H1 : Hp) : Prop :=
  (H1 = H ∧ H c = some (CodeO c q)) ∨ ∃ more : Array Value, H1 = upd (upd H P (.tbl more)) c (CodeO c q) ∧ H c = none ∧ TriplesOk more.toList ∧ ∀ (p : Pos) (cv : Value), codeAmong p more.toList = some cv → codeAmong p ps.toList = some cv ∨ cv = .ref c
theorem lam_new {c P : Addr} {params : Arguments} {body : Expr} {scope : Scope} {pos : Pos} {ps : Array Value} {Er : Value → Shared → Prop} {Q : Value → Shared → Prop} (inv : Inv X pins σ H s) (TB : TabB X.base X.mg c P) (code : X.env.code = .ref c) (tracked : H P = some (.tbl ps)) (tri : TriplesOk ps.toList) (kn : Known H (X.env.qual ++ "<lambda>") ps.toList)
    (dflt : defaultsOf params X.env = ([], [])) (caught : ∀ y ∈ scope.names, y.2 = .free → ∃ c, X.env.cells.lookup y.1 = some c)
    (want : ∀ (f c1 : Addr) (pm ctv : Value) (H1 : Hp) (s1 : Shared), Inv X pins σ H1 s1 → Made H P (X.env.qual ++ "<lambda>") ps c1 H1 → s1.heap.get? f = some (lamO X params body scope pm ctv c1) → H1 f = none → f ∉ frs X.stack → H1 c1 = some (CodeO c1 (X.env.qual ++ "<lambda>")) → Q (.ref f) s1) :
    wpAny (model X.prog X.w) X.A (eval (.Lambda params body scope pos) X.env) Q Er s := by
  refine PySem.W.kla_eval dflt ?_
  have there : s.heap.BuiltinsAt X.mg P := TB.bm.keeps inv.bk
  have obj : s.heap.get? P = some { cls := .none, data := .fields ps } := inv.hok P _ tracked
  have away : ∀ f, s.heap.objs.size ≤ f → f ∉ frs X.stack := fun f le z => by
    rcases List.mem_cons.mp (inv.stkSub _ z) with e | e
    · have below := inv.lt
      rw [← e] at below
      exact Nat.lt_irrefl _ (Nat.lt_of_lt_of_le below le)
    · exact inv.nofs le e
  cases hit : codeAmong pos ps.toList with
  | some cv =>
    obtain ⟨c1, e, hc1⟩ := kn pos cv hit
    subst e
    refine PySem.W.kla_makeFunctionHit (mg := X.mg) (c := c) (P := P) (ps := ps) (closure_ok caught) inv.ok.glob (inv.mod.glob.keeps inv.bk) code (TB.code.keeps inv.bk) obj tri hit there fun ctv h1 tk keep size => ?_
    have grown : ∀ b o, s.heap.get? b = some o → (h1.push (lamO X params body scope ((X.mg "__name__").getD .none) ctv c1)).get? b = some o := fun b o e => Heap.get?_push_of_some _ (keep b o e)
    exact want h1.objs.size c1 ((X.mg "__name__").getD .none) ctv H _ (inv.kept grown) (.inl ⟨rfl, hc1⟩) (Heap.get?_push_size _ rfl) (inv.hok.fresh size) (away _ size) hc1
  | none =>
    refine PySem.W.kla_makeFunction (mg := X.mg) (c := c) (P := P) (ps := ps) (closure_ok caught) inv.ok.glob (inv.mod.glob.keeps inv.bk) code (TB.code.keeps inv.bk) obj tri hit TB.gP there fun c1 ctv h1 tk but low high rec tab => ?_
    obtain ⟨c2, oc, vs, t, e2, got, dat, nam⟩ := rec
    cases e2
    have wide : s.heap.objs.size ≤ h1.objs.size := Nat.le_trans low (Nat.le_of_lt high)
    have free : H c1 = none := inv.hok.fresh low
    have apart : P ≠ c1 := ne_of_none tracked free
    have J := inv_table (t' := tk) (more := #[rawInt pos.line, rawInt pos.col, .ref c1]) (h' := h1.push (lamO X params body scope ((X.mg "__name__").getD .none) ctv c1)) inv tracked
      (fun b o n e => Heap.get?_push_of_some _ (but b o n e)) (Heap.get?_push_of_some _ tab) low ⟨oc, vs, t, Heap.get?_push_of_some _ got, dat, nam⟩
    have row : (ps ++ #[rawInt pos.line, rawInt pos.col, .ref c1]).toList = ps.toList ++ [rawInt pos.line, rawInt pos.col, .ref c1] := by simp
    have m1 : h1.objs.size ≠ c1 := Nat.ne_of_gt high
    have m2 : h1.objs.size ≠ P := Nat.ne_of_gt (Nat.lt_of_lt_of_le (Heap.lt_size obj) wide)
    refine want h1.objs.size c1 ((X.mg "__name__").getD .none) ctv _ _ J (.inr ⟨_, rfl, free, ?_, fun p cv z => ?_⟩) (Heap.get?_push_size _ rfl) ?_ (away _ wide) upd_same
    · rw [row]; exact PySem.TriplesOk_snoc _ _ _ _ tri
    · rw [row] at z; exact among_app _ tri z
    · rw [upd_ne m1, upd_ne m2]; exact inv.hok.fresh wide
end
/-- the making, of the layer's store -/
theorem made_step {U : Wd} {G : Gh} {S : Sto} {H H1 : Hp} {t : Nat} {q : Str} {c : Addr} {ps : Array Value} (rs : RelS U G S H) (e : S.get t = some (.tbl q)) (hP : H (G.ι t) = some (.tbl ps)) (hk : ∀ (p : Pos) (cv : Value), codeAmong p ps.toList = some cv → ∃ c, cv = .ref c ∧ H c = some (CodeO c q) ∧ NS G c) (tab : G.ι t = (He.cT U.K ("law", none)).2) (m : Made H (G.ι t) q ps c H1) : Step G H G H1 ∧ RelS U G S H1 := by
  rcases m with ⟨rfl, _⟩ | ⟨more, rfl, hc, tri, ok⟩
  · exact ⟨Step.refl, rs⟩
  · have ht : t < G.n := by rw [rs.n]; exact Sto.get_lt e
    have ne : G.ι t ≠ c := ne_of_none hP hc
    have sw : upd (upd H (G.ι t) (.tbl more)) c (CodeO c q) = upd (upd H c (CodeO c q)) (G.ι t) (.tbl more) := by
      funext b
      by_cases h1 : b = c
      · subst h1
        rw [upd_same, upd_ne (fun z => ne z.symm), upd_same]
      · by_cases h2 : b = G.ι t
        · subst h2; rw [upd_ne h1, upd_same, upd_same]
        · rw [upd_ne h1, upd_ne h2, upd_ne h2, upd_ne h1]
    rw [sw]
    have st1 : Step G H G (upd H c (CodeO c q)) := step_new rs hc
    have rs1 : RelS U G S (upd H c (CodeO c q)) := rel_new rs hc
    have nc : NS G c := rs.ns hc
    have ov : OV U G (upd (upd H c (CodeO c q)) (G.ι t) (.tbl more)) (.tbl q) (G.ι t) := by
      refine ⟨tab, more, upd_same, tri, fun p cv z => ?_⟩
      rcases ok p cv z with z | z
      · obtain ⟨c2, e2, h2, n2⟩ := hk p cv z
        exact ⟨c2, e2, by rw [upd_ne (fun y => n2.1 t ht y.symm), upd_ne (ne_of_none h2 hc)]; exact h2, n2⟩
      · exact ⟨c, z, by rw [upd_ne (fun y => ne y.symm), upd_same], nc⟩
    have r := rel_put (o := .tbl more) (ob := .tbl q) rs1 ht ov
    have eS : S.set t (.tbl q) = S := by
      have hn := Sto.get_lt e
      unfold Sto.set Sto.get at *
      rw [if_pos hn] at e ⊢
      obtain ⟨hl, he⟩ := List.getElem?_eq_some_iff.mp e
      congr 1
      rw [← he]
      exact List.set_getElem_self hl
    rw [eS] at r
    exact ⟨st1.trans (step_put rs1 ht), r⟩
section
variable {X : Cx} {pins : List (Addr × Obj)} {σ : L2.St} {H HZ : Hp} {s : Shared}
/-- act(), in the def that got the lambda -/
theorem lam_act {CXg : CXT} {Eg Eb : XK} {Ng : List Str} {qg : Str} {sg : Scope} {g f c1 : Addr} {cdg pm ctv : Value} {params : Arguments} {body : Expr} {scope : Scope} {k i : Nat} {a : Str} {pn : List (Addr × Obj)} {xe : Value → Shared → Prop} {W : WX} {tb : TE} {p1 p2 : Pos}
    (inv : Inv X pins σ H s) (L : LamS X.env.scope scope) (obj : s.heap.get? f = some (lamO X params body scope pm ctv c1)) (fr : H f = none) (out : f ∉ frs X.stack) (none_ : bindArgs (PySem.W.kla_fn "<lambda>" (X.env.qual ++ "<lambda>") params body scope (cloFrom X.env.cells scope.names []) pm (.ref c1) ctv) ⟨[], []⟩ = pure [])
    (tk : Takes ((cxOf CXg X.prog X.w X.K X.mg X.base Ng qg sg g cdg X.A X.stack s H Eg).tr pn xe) W) (up : ∀ cls d σ' H', Eb cls d H' → W cls d σ' H') (room : Room (k + 1) (X.A.deeper (envOfC qg sg s.heap.objs.size g cdg)))
    (hb : ∀ (s2 : Shared) (H2 : Hp), PE (lamCx X (X.A.deeper (envOfC qg sg s.heap.objs.size g cdg)) (envOfC qg sg s.heap.objs.size g cdg :: X.stack) s2 H2 Eb scope f c1) body tb)
    (slot : Ng[i]? = some a) (vis : Vis sg a) (hd : (a == ("__debug__" : Str)) = false := by decide) (hcd : (a == ("__classdict__" : Str)) = false := by decide) :
    PE ((cxOf CXg X.prog X.w X.K X.mg X.base Ng qg sg g cdg X.A X.stack s H Eg).tr pn xe) (.Call (.Name a p1) [] [] p2) (fun σZ HZ Q => σZ[i]? = some (some (.ref f)) ∧ HZ c1 = some (CodeO c1 (X.env.qual ++ "<lambda>")) ∧ tb σ HZ Q) := by
  refine ⟨fun pinsZ sZ σZ HZ Q invZ ⟨at_, cod, ht⟩ => ?_⟩
  refine wpAny_Call_Name_kw (thn ((pe_var (pos := p1) (i := i) slot vis hd hcd).run pinsZ sZ σZ HZ (fun v H1 => v = .ref f ∧ H1 = HZ) invZ ⟨.ref f, at_, rfl, rfl⟩) fun u s1 ⟨v, H1, I1, r1, ev, eH⟩ => ?_)
  subst ev
  rw [eH] at I1
  obtain rfl : u = Value.ref f := r1
  have obj1 := I1.base.keep f _ obj fr out (fun z => nomatch (show f ∈ ([] : List Addr) from z))
  have un : Un (frs X.stack) [] H HZ s.heap s1.heap := I1.base
  obtain ⟨⟨oc, vs, t, got, dat, nam⟩, _, _⟩ := I1.hok c1 _ cod
  refine PySem.W.callWith_F0 ⟨_, _, _, _, obj1⟩ (wpAny_call (codeAny_mono (R := CR (L2.CX X.prog X.w) (envOfC qg sg s.heap.objs.size g cdg :: X.stack) X.prog X.w HZ s1 Q Eb) ?_ fun r s2 hq => ?_))
  · refine PySem.W.kla_callFunE room.depth obj1 rfl L.co L.gen rfl ⟨c1, oc, vs, t, rfl, got, dat, nam⟩ ?_
    rw [List.nil_append, none_]
    refine wpAny_pure (wpAny_newFunctionEnv (fun y hy => (L.own y hy).2) (fun y hy => absurd hy (by simp)) (fun h2 own sub => ⟨I1.nolimit.fresh _ sub, ?_⟩) L.kind)
    have kp : ∀ b o, s1.heap.get? b = some o → h2.get? b = some o := fun b o e => sub.extBut b o (Nat.ne_of_lt (Heap.lt_size e)) (Heap.get?_push_of_some _ e)
    have J := lam_start2 (c' := c1) (f := f) (E := Eb) (tk := s1.toks + ([] : List (Str × Value)).length) inv L I1.env0 room.hd un own kp
    refine PySem.W.kla_codeExpr (wpAny_mono ((hb s1 HZ).run [] _ _ HZ Q J ht) (fun v s3 ⟨w', H', J', rv, q⟩ => ?_) fun e s3 hq => hq)
    exact ⟨w', H', J'.os, J'.bare, J'.base, J'.hok, rv, q⟩
  · have px : Passes (L2.CX X.prog X.w) ((cxOf CXg X.prog X.w X.K X.mg X.base Ng qg sg g cdg X.A X.stack s H Eg).tr pn xe) Eb := passes_call tk up
    cases r with
    | error e => exact px pinsZ σZ HZ s1 e s2 I1 hq
    | ok fl =>
      cases fl with
      | ret u => exact I1.after hq
      | _ => exact False.elim hq
end
/-- _law_heard(lambda: ..) -/
def eHeard (q : Str) (told nothing : List Nat) (tb : List (Str × Bool)) (m : E) : E := fun ρ S => match S.get 0 with
  | some (.tbl q') => if q' = q then (match m ρ S with
    | .ok d S' => .ok (.tup [.str told, d]) S'
    | .ex x S' => (match tb.lookup x.cls with
      | some true => .ok (.tup [.str nothing]) S'
      | _ => .bad)
    | .bad => .bad) else .bad
  | _ => .bad
abbrev heardBody (y : Str) (told nothing a : Str) (j1 j2 k1 k2 : Nat) (p1 p2 p3 p4 p5 p6 p7 p8 p9 p10 p11 : Pos) : List Stmt :=
  [.Try [.Return (some (.Tuple [.Constant (.str told) j1 p1, .Call (.Name a p2) [] [] p3] k1 p4)) p5] [.ExceptHandler (some (.Name y p6)) none [.Return (some (.Tuple [.Constant (.str nothing) j2 p7] k2 p8)) p9] p10] [] [] p11]
theorem takes_lam {X : Cx} {A : Around} {outer : List PySem.Env} {s : Shared} {H : Hp} {E : XK} {scope : Scope} {f c1 : Addr} : Takes (lamCx X A outer s H E scope f c1) (fun cls d _ H' => E cls d H') := takes_of (X := lamCx X A outer s H E scope f c1) rfl rfl rfl rfl
theorem ce_heard {X : Cx} {k : Nat} {x y a told nothing : Str} {lt ln : List Nat} {j1 j2 k1 k2 : Nat} {p1 p2 p3 p4 p5 p6 p7 p8 p9 p10 p11 p lpos pos : Pos} {pg : Arguments} {bd : List Stmt} {sg : Scope} {g : Addr} {fdg : FuncData} {Ng : List Str} {params : Arguments} {body : Expr} {scope : Scope} {m : E} {tb : List (Str × Bool)}
    (st : Std X (k + 3)) (F : FunD X.K x x pg bd sg [] [] g fdg) (hm : X.mg x = some (.ref g)) (hg : Gl X x) (Sg : FnScope Ng [a] sg) (slot : Ng[0]? = some a) (hbd : bd = heardBody y told nothing a j1 j2 k1 k2 p1 p2 p3 p4 p5 p6 p7 p8 p9 p10 p11) (hbind : Binds X.K fdg [a] [])
    (gy : sg.names.lookup y = some .globalImplicit) (hy : ExM X.K X.mg y tb) (et : told = ⟨lt.toArray⟩) (en : nothing = ⟨ln.toArray⟩)
    (TB : ∃ c, X.env.code = .ref c ∧ TabB X.base X.mg c (He.cT X.K ("law", none)).2) (L : LamS X.env.scope scope) (hdef : defaultsOf params X.env = ([], []))
    (hnone : ∀ (q : Str) (cl : List (Str × Addr)) (pm cv ctv : Value), bindArgs (PySem.W.kla_fn "<lambda>" q params body scope cl pm cv ctv) ⟨[], []⟩ = pure [])
    (hb : ∀ (A : Around) (outer : List PySem.Env) (s : Shared) (H : Hp) (E : XK) (f c1 : Addr), Std (lamCx X A outer s H E scope f c1) k → CE (lamCx X A outer s H E scope f c1) body m)
    (hdb : (x == ("__debug__" : Str)) = false := by decide) (hyd : (y == ("__debug__" : Str)) = false := by decide) (had : (a == ("__debug__" : Str)) = false := by decide) (hac : (a == ("__classdict__" : Str)) = false := by decide) :
    CE X (.Call (.Name x p) [.Lambda params body scope lpos] [] pos) (eHeard (X.env.qual ++ "<lambda>") lt ln tb m) := fun W tk => by
  refine ⟨fun pins s σ H Q inv ⟨G, ρ, S, rs, re, want⟩ => ?_⟩
  obtain ⟨c, code, TB⟩ := TB
  obtain ⟨CSy, gS, tbs⟩ := hy
  have va : Vis sg a := (Sg.par a List.mem_cons_self).elim .inl fun z => .inr (.inl z)
  unfold eHeard at want
  split at want
  case h_2 => exact want.elim
  rename_i q' e0
  split at want
  case isFalse => exact want.elim
  rename_i eq
  subst eq
  obtain ⟨tab, ps, hP, tri, kn⟩ := rs.at_ 0 _ e0
  refine wpAny_Call_Name_kw (ld_glob inv hg hm (PySem.W.callWith_K (h₀ := X.base) inv.ok.mod.kin F.kp ?_ (by rfl) (by rfl)) hdb)
  show wpAny _ _ (spliced ((false, eval (.Lambda params body scope lpos) X.env) :: backTo pos (starEach [] X.env))) _ _ s
  refine Calls.spliced_cons (lam_new (P := G.ι 0) inv (by rw [tab]; exact TB) code hP tri (fun p cv z => let ⟨c2, h1, h2, _⟩ := kn p cv z; ⟨c2, h1, h2⟩) hdef (L.has inv.ok) fun f c1 pm ctv H1 s1 I1 made obj fr out hc1 => ?_)
  obtain ⟨st1, rs1⟩ := made_step rs e0 hP kn tab made
  have re1 := re.mono st1
  refine Calls.spliced_nil ⟨I1.kIn, ?_⟩
  obtain ⟨_, _, _, _, _, _, _, cdv, _, _, rfl, lk, hcd, _⟩ := F.ex
  -- what the lambda may let out
  let Eb : XK := fun cls d H' => ∃ b, PySem.W.exmOne X.K cls (.ref CSy) = some b ∧ (b = true → ∀ (a : Addr) (ob : Obj), H' a = none → ob.dict = none → Q (.ref a) (upd H' a (.frz ob (.tup [.str nothing])))) ∧ (b = false → False)
  have bodyGo : tEv (wd X) m (fun cls d _ H' => Eb cls d H') σ H1 (fun v H2 => ∀ (a : Addr) (ob : Obj), H2 a = none → ob.dict = none → Q (.ref a) (upd H2 a (.frz ob (.tup [.str told, v])))) := by
    refine ⟨G, ρ, S, rs1, re1, ?_⟩
    cases em : m ρ S with
    | ok d S' =>
      rw [em] at want
      intro G2 v H2 st2 rs2 q2 a2 ob ha2 hob
      refine want G2 (.ref a2) _ (st1.trans (st2.trans (step_new rs2 ha2))) (rel_new rs2 ha2) (new_tup rs2 ha2 hob ⟨_, _, rfl, congrArg V.str et, v, [], rfl, q2, rfl⟩)
    | ex x S' =>
      rw [em] at want
      dsimp only at want
      split at want
      case h_2 => exact want.elim
      rename_i el
      intro G2 H2 cls dd st2 rs2 ⟨C, gC, ec, _⟩
      obtain ⟨C2, gC2, hx⟩ := tbs _ (lookup_in el)
      have eC : C2 = C := by
        have z := gC2.symm.trans gC
        injection z with z1
        injection z1
      subst eC
      subst ec
      refine ⟨true, hx, fun _ a2 ob ha2 hob => ?_, fun z => by cases z⟩
      exact want G2 (.ref a2) _ (st1.trans (st2.trans (step_new rs2 ha2))) (rel_new rs2 ha2) (new_tup rs2 ha2 hob ⟨_, _, rfl, congrArg V.str en, rfl⟩)
    | bad => rw [em] at want; exact want.elim
  have run : codeAny (model X.prog X.w) X.A (.call (.ref g) ⟨[.ref f], []⟩) (CR C8.CX0 X.stack X.prog X.w H1 s1 Q C8.E0) s1 := by
    refine run_ofS (k := k + 2) (N := Ng) (ps := [a]) (us := [.ref f]) (vs := [.ref f]) lk hcd Sg st.hr I1.env0 (by
      have z := hbind s1 [.ref f] I1.kIn rfl
      rw [List.append_nil] at z
      exact z) (.cons rfl .nil) rfl fun room => ?_
    rw [hbd]
    have gl : Gl (cxOf C8.CX0 X.prog X.w X.K X.mg X.base Ng x sg g cdv X.A X.stack s1 H1 C8.E0).nox y := gy
    refine ⟨_, (pss_one (ps_try_only (X := (cxOf C8.CX0 X.prog X.w X.K X.mg X.base Ng x sg g cdv X.A X.stack s1 H1 C8.E0).nox) (c := .ref CSy)
      (tb := fun W' D σ' H' => (∀ cls d σ2 H2, Eb cls d H2 → W' cls d σ2 H2) ∧ σ'[0]? = some (some (.ref f)) ∧ H' c1 = some (CodeO c1 (X.env.qual ++ "<lambda>")) ∧ tEv (wd X) m (fun cls d _ H2 => Eb cls d H2) σ H' (fun v H2 => ∀ (a : Addr) (ob : Obj), H2 a = none → ob.dict = none → D.rt (.ref a) (upd H2 a (.frz ob (.tup [.str told, v])))))
      rfl rfl ⟨gl, hyd, .inl gS⟩ LamX.takes0 (fun W' pn xe tk' _ => ⟨fun pins2 s2 σ2 H2 D I2 ⟨up, sl, cod, tv⟩ => ?_⟩) (fun a2 oe cls d pn _ _ => pss_one (ps_ret (pe_tupF (pa_cons pe_str pa_nil)))))).nox, ?_⟩
    · have act := lam_act (a := a) (p1 := p2) (p2 := p3) (CXg := C8.CX0) (Eg := C8.E0) (Eb := Eb) (Ng := Ng) (qg := x) (cdg := cdv) (k := k + 1) (i := 0) (pn := pn) (xe := xe) (tb := tEv (wd X) m fun cls d _ H' => Eb cls d H') I1 L obj fr out (hnone _ _ _ _ _) tk' up room
        (fun s3 H3 => hb _ (envOfC x sg s1.heap.objs.size g cdv :: X.stack) s3 H3 Eb f c1 ⟨((room.deeper _).mono (by omega)), rfl, st.hN, st.hg⟩ _ takes_lam) slot va had hac
      have row := pss_one (ps_ret (pos := p5) (pe_tupF (x1 := k1) (pos := p4) (pa_cons (pe_str (pos := p1) (j := j1) (x := told)) (pa_cons act pa_nil))))
      refine row.run pins2 s2 σ2 H2 D I2 ?_
      exact ⟨sl, cod, by
        obtain ⟨G3, ρ3, S3, a3, b3, c3⟩ := tv
        exact ⟨G3, ρ3, S3, a3, b3, Go.mono c3 fun v H4 w => ⟨by show 2 ≤ sizeLine; rw [sizeLine_eq]; decide, w⟩⟩⟩
    · refine ⟨fun cls d σ2 H2 ⟨b, e1, e2, e3⟩ => ⟨b, e1, fun hb2 a2 na => ?_, fun hb2 => (e3 hb2).elim⟩, rfl, hc1, bodyGo⟩
      exact ⟨by show 1 ≤ sizeLine; rw [sizeLine_eq]; decide, fun a3 ob h3 ho => e2 hb2 a3 ob h3 ho⟩
  refine wpAny_call (codeAny_mono run fun r s2 hq => ?_)
  cases r with
  | error e => exact (show False from hq).elim
  | ok fl =>
    cases fl with
    | ret u => exact I1.after hq
    | _ => exact False.elim hq
end Z

/-! ZT: the end of a law in which lambdas are made. -/
namespace Z
open PySem PySem.Spec PyProof PyProof.Rows L2 LamX
/-- what the law's own def knows of its code object -/
structure LawT (K : PySem.W.Frag) (mg : Str → Option Value) (base : Heap) : Prop where
  tb : TabB base mg (He.cT K ("law", none)).1 (He.cT K ("law", none)).2
abbrev lawP (K : PySem.W.Frag) : Addr := (He.cT K ("law", none)).2
/-- a law's own call, its table tracked -/
theorem lawGT {P : Program} {w : World} {K : PySem.W.Frag} {mg mb : Str → Option Value} {CX : CXT} {k : Nat} {fa a : Addr} {fd : FuncData} {x : Str} {sp : Sp} {s1 : Shared} {vs : List Value} {ns : List Int}
    (KX : K.In s1.heap) (hns : s1.heap.Ns mainGlobals mg) (hb : s1.heap.Ns builtinsNs mb) (hbb : ∀ x : Str, x ≠ "__name__" → mb x = bootBuiltins x) (hlim : s1.heap.NoLimit) (hg : s1.gens = #[]) (ha : s1.heap.get? a = some { cls := .type "list", data := .seq vs.toArray }) (hi : IntsAre vs ns) (hl : ns.length ≤ sizeLine) (hr : Room k callerA)
    (cd : PySem.W.codeHdIn K (He.cT K ("law", none)).1 (lawP K) = true) (out : K.lookup (lawP K) = none) (emp : s1.heap.get? (lawP K) = some { cls := .none, data := .fields #[] })
    (bmod : ∃ (bm : Addr) (ob : Obj), mg "__builtins__" = some (.ref bm) ∧ bm ≠ builtinsNs ∧ s1.heap.get? bm = some ob ∧ ob.cls = .type "module" ∧ ob.dict = some builtinsNs ∧ ob.data = .plain)
    (F : ∀ base : Heap, K.In base → base.Ns mainGlobals mg → LawT K mg base → FnG P w K mg base CX k fa fd [x] sp) (hbind : ∀ (s : Shared) (u : Value), K.In s.heap → BindsTo s fd ⟨[u], []⟩ [(x, u)]) (hsp : ∀ H : Hp, H (lawP K) = some (.tbl #[]) → a ≠ lawP K → SqL K H a (ns.map V.int) → sp [.ref a] H (fun v _ => v = .bl true) fun _ _ _ => False) (hCX : ∀ H e s', CX [] H s1 (fun _ _ _ => False) e s' → False) :
    codeAny (model P w) callerA (.call (.ref fa) ⟨[.ref a], []⟩) (fun r s' => r = .ok (.ret (.bool true)) ∧ OldK s1.heap s'.heap ∧ s'.os = s1.os ∧ AllBare s'.gens) s1 := by
  have rel := vals_ints hi
  have many := hi.length
  have aP : a ≠ lawP K := fun z => by
    rw [z, emp] at ha
    exact nomatch (show Data.fields #[] = Data.seq vs.toArray _ from congrArg Obj.data (Option.some.inj ha))
  have from_ : ∀ H : Hp, H (lawP K) = some (.tbl #[]) → (∀ b, H b = none ∨ b = lawP K ∨ ∃ o xs, H b = some (.frz o (.lst xs))) → SqL K H a (ns.map V.int) → HOk P w H s1.heap → (∀ b, H b ≠ none → b = a ∨ b = lawP K) → (H a ≠ none → K.lookup a = none) → codeAny (model P w) callerA (.call (.ref fa) ⟨[.ref a], []⟩) (fun r s' => r = .ok (.ret (.bool true)) ∧ OldK s1.heap s'.heap ∧ s'.os = s1.os ∧ AllBare s'.gens) s1 := by
    intro H tabH only seq hok alone free
    have there : ∀ {b : Addr} {o : Obj}, s1.heap.get? b = some o → H b = none → (hidT s1.heap H).get? b = some o := fun e n => hidT_get e n
    have plain : ∀ {b : Addr} {o : Obj}, s1.heap.get? b = some o → (∀ l n, o.data ≠ .seq l n) → o.data ≠ .fields #[] → H b = none := fun {b o} e h1 h2 => by
      apply Classical.byContradiction
      intro q
      rcases alone b q with z | z
      · subst z
        rw [ha] at e
        cases e
        exact h1 _ _ rfl
      · subst z
        rw [emp] at e
        cases e
        exact h2 rfl
    have clear : ∀ {b : Addr} {o : Obj} {es : Array DictEntry} {ep : Nat}, s1.heap.get? b = some o → o.data = .dict es ep → H b = none := fun {b o es ep} e d => plain e (fun l n z => by rw [d] at z; cases z) fun z => by rw [d] at z; cases z
    have spaces : ∀ {b : Addr} {m : Str → Option Value}, s1.heap.Ns b m → (hidT s1.heap H).Ns b m := fun ⟨o, es, ep, e, d, r⟩ => ⟨o, es, ep, there e (clear e d), d, r⟩
    have part : K.In (hidT s1.heap H) := fun b o e => there (KX b o e) (by
      apply Classical.byContradiction
      intro q
      rcases alone b q with z | z
      · subst z
        rw [free q] at e
        cases e
      · subst z
        rw [out] at e
        cases e)
    have md : Mod K mg (hidT s1.heap H) := ⟨part, spaces hns, ⟨mb, spaces hb, hbb⟩, let ⟨mc, h1, h2⟩ := hlim; ⟨mc, spaces h1, h2⟩⟩
    have gP : mainGlobals ≠ lawP K := fun z => by
      obtain ⟨o, es, ep, e, d, _⟩ := hns
      rw [z, emp] at e
      cases e
      cases d
    have lt : LawT K mg (hidT s1.heap H) := by
      obtain ⟨bm, ob, b1, b2, b3, b4, b5, b6⟩ := bmod
      have n1 : bm ≠ mainGlobals := fun q => by
        obtain ⟨o, es, ep, e, d, _⟩ := hns
        rw [q, e] at b3
        cases b3
        rw [d] at b6
        cases b6
      have n2 : bm ≠ lawP K := fun q => by
        rw [q, emp] at b3
        cases b3
        cases b6
      exact ⟨NdefX.tabB_of_K part cd ⟨bm, ob, b1, b2, n1, n2, there b3 (plain b3 (fun l n z => by rw [b6] at z; cases z) fun z => by rw [b6] at z; cases z), b4, b5, b6⟩ gP⟩
    have e0 : Env0 P w K mg (hidT s1.heap H) callerA [] s1 H := ⟨rfl, md, fun b o e => of_hidT e, Nat.le_of_eq (hidT_size _ _), trivial, fun b hb => absurd (show b ∈ ([] : List Addr) from hb) (by simp), hok, .of_eq hg⟩
    refine codeAny_mono ((F _ part (spaces hns) lt).go callerA [] s1 H ⟨[.ref a], []⟩ [.ref a] [.ref a] _ _ hr rfl e0 (hbind s1 (.ref a) KX) (.cons rfl .nil) (hsp H tabH aP seq)) fun r s' h => ?_
    rcases r with e | fl
    · exact (hCX H e s' h).elim
    · cases fl with
      | ret u =>
        obtain ⟨v, H', os, bare, un, hok2, rv, q⟩ := h
        have q : v = .bl true := q
        subst q
        obtain rfl : u = Value.bool true := rv
        have stays : ∀ b o, b ≠ lawP K → s1.heap.get? b = some o → s'.heap.get? b = some o := fun b o nb e => by
          rcases only b with z | z | ⟨ob, xs, z⟩
          · exact un.keep b o e z (fun y => absurd (show b ∈ ([] : List Addr) from y) (by simp)) (by simp)
          · exact absurd z nb
          · obtain ⟨e1, _⟩ := hok b _ z
            obtain ⟨e2, _⟩ := hok2 b _ (un.frzs b ob _ z)
            rw [e] at e1
            cases e1
            exact e2
        obtain ⟨more, grown⟩ := un.tbls (lawP K) #[] tabH
        have at2 : s'.heap.get? (lawP K) = some { cls := .none, data := .fields (#[] ++ more) } := hok2 (lawP K) _ grown
        refine ⟨rfl, ⟨fun b o e => ?_, fun b o e => ?_⟩, os, bare⟩
        · by_cases hb : b = lawP K
          · subst hb
            rw [emp] at e
            cases e
            exact .inr (.inl ⟨((PySem.W.codeHd_of_K KX cd).tab emp).isCodeTable, rfl, #[], more, rfl, at2⟩)
          · exact .inl (stays b o hb e)
        · by_cases hb : b = lawP K
          · subst hb; exact ⟨_, at2⟩
          · exact ⟨o, stays b o hb e⟩
      | _ => exact False.elim h
  cases hk : K.lookup a with
  | some o =>
    have e := KX a o hk
    rw [ha] at e
    cases e
    refine from_ (fun b => if b = lawP K then some (.tbl #[]) else none) (if_pos rfl) (fun b => ?_) (.inr ⟨_, vs.toArray, _, hk, rfl, rfl, rfl, by rw [List.size_toArray, many]; exact hl, by simpa using rel⟩) (fun b u z => ?_) (fun b z => ?_) fun z => absurd (show (if a = lawP K then some (HO.tbl #[]) else none) = none from if_neg aP) z
    · by_cases h : b = lawP K
      · exact .inr (.inl h)
      · exact .inl (if_neg h)
    · by_cases h : b = lawP K
      · subst h
        have y := (if_pos rfl).symm.trans z
        cases y
        exact emp
      · have y := (if_neg h).symm.trans z
        cases y
    · by_cases h : b = lawP K
      · exact .inr h
      · exact absurd (if_neg h) z
  | none =>
    refine from_ (fun b => if b = a then some (.frz { cls := .type "list", data := .seq vs.toArray } (.lst (ns.map V.int))) else if b = lawP K then some (.tbl #[]) else none) ((if_neg (fun z => aP z.symm)).trans (if_pos rfl)) (fun b => ?_) (.inl (.inr ⟨{ cls := .type "list", data := .seq vs.toArray }, if_pos rfl⟩)) (fun b u z => ?_) (fun b z => ?_) fun _ => hk
    · by_cases h : b = a
      · exact .inr (.inr ⟨_, _, if_pos h⟩)
      · by_cases h2 : b = lawP K
        · exact .inr (.inl h2)
        · exact .inl ((if_neg h).trans (if_neg h2))
    · by_cases h : b = a
      · subst h
        have y := (if_pos rfl).symm.trans z
        cases y
        exact ⟨ha, by rw [List.length_map]; exact hl, vs, _, rel, ha⟩
      · have y := (if_neg h).symm.trans z
        by_cases h2 : b = lawP K
        · subst h2
          have y2 := (if_pos rfl).symm.trans y
          cases y2
          exact emp
        · have y2 := (if_neg h2).symm.trans y
          cases y2
    · by_cases h : b = a
      · exact .inl h
      · by_cases h2 : b = lawP K
        · exact .inr h2
        · exact absurd ((if_neg h).trans (if_neg h2)) z
theorem walkGT {l : PySem.W.OpenLaw} {n k : Nat} {q : Program} {loose : List Str} {XP : (Str → Option Value) → Heap → Prop} {YP : World → Heap → Prop} {d : DefRec} {CX : World → CXT} {x : Str} (hn : l.most = some n) (hn2 : n ≤ sizeLine) (hdf : d.params.defaults = []) (hr : Room k callerA)
    (F : ∀ (w : World) (mg : Str → Option Value) (fa : Addr) (h : Heap), YP w h → h.Ns mainGlobals mg → mg d.name = some (.ref fa) → ∃ (K : PySem.W.Frag) (fd : FuncData) (sp : Sp), K.In h ∧ (PySem.W.codeHdIn K (He.cT K ("law", none)).1 (lawP K) = true ∧ K.lookup (lawP K) = none ∧ h.get? (lawP K) = some { cls := .none, data := .fields #[] }) ∧ (∀ (s : Shared) (u : Value), K.In s.heap → BindsTo s fd ⟨[u], []⟩ [(x, u)]) ∧
      (∀ (H : Hp) (a : Addr) (ns : List Int), ns.length ≤ n → H (lawP K) = some (.tbl #[]) → a ≠ lawP K → SqL K H a (ns.map V.int) → sp [.ref a] H (fun v _ => v = .bl true) fun _ _ _ => False) ∧ ∀ base : Heap, K.In base → base.Ns mainGlobals mg → LawT K mg base → FnG l.prog w K mg base (CX w) k fa fd [x] sp)
    (hCX : ∀ (w : World) (H : Hp) (s : Shared) (e : Value) (s' : Shared), CX w [] H s (fun _ _ _ => False) e s' → False) : PySem.W.WalkO q loose XP YP l.row.toRowW d [] (fun f vs => PySem.call f vs) :=
  Att.attach_call hn hdf fun w s0 s1 mg mb fa o pm cd doc a vs ns G Y ho hd hcd hmg hobj hints hlen hg =>
    let ⟨_, _, _, KX, ⟨c1, c2, c3⟩, hb, hsp, hF⟩ := F w mg fa _ Y G.T.g hmg
    lawGT KX G.T.g G.T.b G.T.builtins G.T.nolimit hg hobj hints (Nat.le_trans hlen hn2) hr c1 c2 c3 G.T.bmain hF hb (fun H h1 h2 hS => hsp H a ns hlen h1 h2 hS) fun H e s' => hCX w H s1 e s'
/-! the law's own def -/
section
variable {P : Program} {w : World} {K : PySem.W.Frag} {mg : Str → Option Value} {base : Heap} {k : Nat}
theorem fs_ofT {x qual : Str} {params : Arguments} {bd : List Stmt} {scope : Scope} {fd : FuncData} {N ps : List Str} {body : C} (F : FunD K x qual params bd scope [] [] (He.fAd K ("law", none)) fd) (Sc : FnScope N ps scope)
    (hb : ∀ (cdv : Value) (A : Around) (outer : List PySem.Env) (s : Shared) (H : Hp) (E : XK), cdv = .ref (He.cT K ("law", none)).1 → StdS (cxF P w K mg base N qual scope (He.fAd K ("law", none)) cdv A outer s H E) k → CSs (cxF P w K mg base N qual scope (He.fAd K ("law", none)) cdv A outer s H E) bd body) :
    FS P w K mg base (k + 1) (He.fAd K ("law", none)) fd ps (fnS ps.length N.length body) := by
  obtain ⟨_, _, _, _, _, _, _, cdv, _, _, rfl, lk, hcd, _⟩ := F.ex
  have ec : cdv = .ref (He.cT K ("law", none)).1 := by
    obtain ⟨c, e⟩ := He.codeIn_ref hcd
    rw [e, show (He.cT K ("law", none)).1 = c from He.codeOf_eq lk e]
  refine fnG_of lk hcd Sc (fun vs H Q E h => h.1) fun A outer s H vs Q E hr hgd ⟨hl, G, S, ds, rs, q, g⟩ => ?_
  have st : StdS (cxF P w K mg base N qual scope (He.fAd K ("law", none)) cdv A outer s H E) k := ⟨⟨hr, rfl, Sc.nd, hgd⟩, passes_of (X := cxF P w K mg base N qual scope (He.fAd K ("law", none)) cdv A outer s H E) rfl⟩
  refine ⟨_, hb cdv A outer s H E ec st (fun cls d _ H' => E cls d H') (takes_of (X := cxF P w K mg base N qual scope (He.fAd K ("law", none)) cdv A outer s H E) rfl rfl rfl rfl), G, env0 ps.length N.length ds, S, rs, relE_start q hl, ?_⟩
  unfold fnS at g
  cases e : body (env0 ps.length N.length ds) S with
  | nx ρ' S' => rw [e] at g; exact fun G' σ' H' s r re => g G' .non H' s r rfl
  | rt d S' => rw [e] at g; exact g
  | ex x ρ' S' => rw [e] at g; exact fun G' σ' H' cls dd s r re xv => g G' H' cls dd s r xv
  | bk ρ' S' => rw [e] at g; exact g.elim
  | ct ρ' S' => rw [e] at g; exact g.elim
  | bad => rw [e] at g; exact g.elim
theorem fs_mkT {qual : Str} {params : Arguments} {bd : List Stmt} {scope : Scope} {fd : FuncData} {N ps : List Str} {body : C} (F : FunD K "law" qual params bd scope [] [] (He.fAd K ("law", none)) fd) (hm : mg "law" = some (.ref (He.fAd K ("law", none)))) (hbind : Binds K fd ps []) (Sc : FnScope N ps scope)
    (hb : ∀ (cdv : Value) (A : Around) (outer : List PySem.Env) (s : Shared) (H : Hp) (E : XK), cdv = .ref (He.cT K ("law", none)).1 → StdS (cxF P w K mg base N qual scope (He.fAd K ("law", none)) cdv A outer s H E) k → CSs (cxF P w K mg base N qual scope (He.fAd K ("law", none)) cdv A outer s H E) bd body) :
    Fs P w K mg base (k + 1) "law" ps (fnS ps.length N.length body) := ⟨_, fd, fs_ofT F Sc hb, hm, F.kp, hbind, fd_lk F⟩
end
/-- the store at the law's entry -/
def stT (q : Str) : Sto := ⟨1, [.tbl q]⟩
theorem law_spT {U : Wd} {F : Fn} {n : Nat} {q : Str} (h : ∀ ns : List Int, ns.length ≤ n → ∃ S, F [.arg ns] (stT q) = .ok (.bl true) S) (H : Hp) (a : Addr) (ns : List Int) (hl : ns.length ≤ n) (tabH : H (lawP U.K) = some (.tbl #[])) (aP : a ≠ lawP U.K) (hS : SqL U.K H a (ns.map V.int)) : spV U 1 F [.ref a] H (fun v _ => v = .bl true) fun _ _ _ => False := by
  obtain ⟨S, e⟩ := h ns hl
  have rs : RelS U ⟨1, fun _ => lawP U.K, fun _ => False⟩ (stT q) H := by
    refine ⟨rfl, rfl, fun i o ei => ?_, fun i j hi hj _ => ?_, fun a z => z.elim, fun i _ z => z⟩
    · have hi := Sto.get_lt ei
      have hi : i < 1 := hi
      have e0 : i = 0 := by omega
      subst e0
      cases ei
      refine ⟨rfl, #[], tabH, True.intro, fun p cv z => ?_⟩
      have z : codeAmong p [] = some cv := z
      simp [codeAmong] at z
    · have hi : i < 1 := hi
      have hj : j < 1 := hj
      omega
  refine ⟨rfl, ⟨1, fun _ => lawP U.K, fun _ => False⟩, stT q, [.arg ns], rs, ⟨.ref a, [], rfl, ⟨a, rfl, ?_⟩, rfl⟩, ?_⟩
  · rcases hS with hS | hS
    · exact .inl ⟨hS, fun i _ z => aP z.symm, fun z => z⟩
    · exact .inr hS
  · rw [e]
    exact fun G' v H' _ _ q => q
theorem law_endT {P : Program} {w : World} {K : PySem.W.Frag} {mg : Str → Option Value} {h : Heap} {k n : Nat} {fa : Addr} {q qual : Str} {params : Arguments} {bd : List Stmt} {scope : Scope} {fd : FuncData} {F : Fn} (KX : K.In h) (hx : mg "law" = some (.ref fa)) (hm : mg "law" = some (.ref (He.fAd K ("law", none)))) (cd : PySem.W.codeHdIn K (He.cT K ("law", none)).1 (lawP K) = true ∧ K.lookup (lawP K) = none ∧ h.get? (lawP K) = some { cls := .none, data := .fields #[] })
    (F0 : FunD K "law" qual params bd scope [] [] (He.fAd K ("law", none)) fd) (hbind : Binds K fd ["script"] []) (hF : ∀ base, LawT K mg base → FS P w K mg base k (He.fAd K ("law", none)) fd ["script"] F) (law : ∀ ns : List Int, ns.length ≤ n → ∃ S, F [.arg ns] (stT q) = .ok (.bl true) S) :
    ∃ (fd : FuncData) (sp : Sp), K.In h ∧ (PySem.W.codeHdIn K (He.cT K ("law", none)).1 (lawP K) = true ∧ K.lookup (lawP K) = none ∧ h.get? (lawP K) = some { cls := .none, data := .fields #[] }) ∧ (∀ (s : Shared) (u : Value), K.In s.heap → BindsTo s fd ⟨[u], []⟩ [("script", u)]) ∧ (∀ (H : Hp) (a : Addr) (ns : List Int), ns.length ≤ n → H (lawP K) = some (.tbl #[]) → a ≠ lawP K → SqL K H a (ns.map V.int) → sp [.ref a] H (fun v _ => v = .bl true) fun _ _ _ => False) ∧ ∀ base : Heap, K.In base → base.Ns mainGlobals mg → LawT K mg base → FnG P w K mg base (L2.CX P w) k fa fd ["script"] sp := by
  have ef := hm.symm.trans hx
  cases ef
  refine ⟨fd, spV ⟨P, w, K, mg⟩ 1 F, KX, cd, fun s u ks => ?_, fun H a ns hl h1 h2 hS => law_spT (U := ⟨P, w, K, mg⟩) law H a ns hl h1 h2 hS, fun base _ _ lt => hF base lt⟩
  have z := hbind s [u] ks rfl
  rw [List.append_nil] at z
  exact z
theorem StdS.tr {X : Cx} {k : Nat} (st : StdS X k) {pn : List (Addr × Obj)} {xe : Value → Shared → Prop} (own : PassesOwn (model X.prog X.w) X.A X.env xe) : StdS (X.tr pn xe) k := ⟨⟨st.hr, st.hc, st.hN, st.hg⟩, own⟩
theorem Std.less {X : Cx} {j k : Nat} (st : Std X k) (h : j ≤ k) : Std X j := ⟨st.hr.mono h, st.hc, st.hN, st.hg⟩
end Z

/-! ZC: the module's constants. -/
namespace Z
open PySem PySem.Spec PyProof PyProof.Rows L2
mutual
/-- the value u of the written part is d -/
def kvB (K : PySem.W.Frag) : D → Value → Bool
  | .non, .none => true
  | .bl b, .bool c => b == c
  | .int i, .int j _ => decide (i = j)
  | .str l, .str s _ => decide (s = ⟨l.toArray⟩)
  | .tup ds, .ref a => (match K.lookup a with
    | some ⟨.type c, none, .seq its _, _⟩ => decide (c = "tuple") && (Nat.ble its.size 16777216 && kvsB K ds its.toList)
    | _ => false)
  | _, _ => false
def kvsB (K : PySem.W.Frag) : List D → List Value → Bool
  | [], [] => true
  | d :: ds, u :: us => kvB K d u && kvsB K ds us
  | _, _ => false
end
mutual
theorem kvB_ok {K : PySem.W.Frag} : ∀ {d : D} {u : Value}, kvB K d u = true → ∃ v, RelV v u ∧ ∀ (U : Wd) (G : Gh) (H : Hp), U.K = K → DV U G H d v
  | .non, u, h => by
    cases u <;> first | (simp [kvB] at h; done) | exact ⟨.non, rfl, fun _ _ _ _ => rfl⟩
  | .bl b, u, h => by
    cases u with
    | bool c => simp [kvB] at h; subst h; exact ⟨.bl b, rfl, fun _ _ _ _ => rfl⟩
    | _ => simp [kvB] at h
  | .int i, u, h => by
    cases u with
    | int j t => simp [kvB] at h; subst h; exact ⟨.int i, ⟨t, rfl⟩, fun _ _ _ _ => rfl⟩
    | _ => simp [kvB] at h
  | .str l, u, h => by
    cases u with
    | str s t => simp [kvB] at h; subst h; exact ⟨.str ⟨l.toArray⟩, ⟨t, rfl⟩, fun _ _ _ _ => rfl⟩
    | _ => simp [kvB] at h
  | .tup ds, u, h => by
    cases u with
    | ref a =>
      unfold kvB at h
      split at h
      · rename_i c its n sl hk
        obtain ⟨h1, h2⟩ := Bool.and_eq_true_iff.mp h
        obtain ⟨h3, h4⟩ := Bool.and_eq_true_iff.mp h2
        have h1 := of_decide_eq_true h1
        subst h1
        obtain ⟨vs, r, q⟩ := kvsB_ok h4
        refine ⟨.ref a, rfl, fun U G H e => ⟨a, vs, rfl, .inr ⟨_, its, n, by rw [e]; exact hk, rfl, rfl, by rw [sizeLine_eq]; exact Nat.le_of_ble_eq_true h3, r, rfl⟩, q U G H e⟩⟩
      · cases h
    | _ => simp [kvB] at h
  | .lst _, u, h => by simp [kvB] at h
  | .dct _ _, u, h => by simp [kvB] at h
  | .dcn _ _, u, h => by simp [kvB] at h
  | .ref _, u, h => by simp [kvB] at h
  | .arg _, u, h => by simp [kvB] at h
theorem kvsB_ok {K : PySem.W.Frag} : ∀ {ds : List D} {us : List Value}, kvsB K ds us = true → ∃ vs, Vals vs us ∧ ∀ (U : Wd) (G : Gh) (H : Hp), U.K = K → DVs U G H ds vs
  | [], [], _ => ⟨[], .nil, fun _ _ _ _ => rfl⟩
  | [], _ :: _, h => by simp [kvsB] at h
  | _ :: _, [], h => by simp [kvsB] at h
  | d :: ds, u :: us, h => by
    have h : (kvB K d u && kvsB K ds us) = true := by simpa [kvsB] using h
    obtain ⟨h1, h2⟩ := Bool.and_eq_true_iff.mp h
    obtain ⟨v, r1, q1⟩ := kvB_ok h1
    obtain ⟨vs, r2, q2⟩ := kvsB_ok h2
    exact ⟨v :: vs, .cons r1 r2, fun U G H e => ⟨v, vs, rfl, q1 U G H e, q2 U G H e⟩⟩
end
def gcB (K : PySem.W.Frag) (x : Str) (d : D) : Bool := match PySem.W.nsIn K mainGlobals x with
  | some (some u) => kvB K d u
  | _ => false
/-- the module's name x is d -/
structure GC (K : PySem.W.Frag) (mg : Str → Option Value) (x : Str) (d : D) : Prop where
  ex : ∃ u v, mg x = some u ∧ RelV v u ∧ ∀ (U : Wd) (G : Gh) (H : Hp), U.K = K → DV U G H d v
theorem gc_ok {K : PySem.W.Frag} {h : Heap} {mg : Str → Option Value} (X : K.In h) (G : h.Ns mainGlobals mg) {x : Str} {d : D} (c : gcB K x d = true) : GC K mg x d := by
  unfold gcB at c
  split at c
  · rename_i u e
    obtain ⟨v, r, q⟩ := kvB_ok c
    exact ⟨u, v, PySem.W.mg_of X G e, r, q⟩
  · cases c
theorem ce_gc {X : Cx} {pos : Pos} {x : Str} {d : D} (h : GC X.K X.mg x d) (hg : Gl X x) (hd : (x == ("__debug__" : Str)) = false := by decide) : CE X (.Name x pos) (eC d) := by
  obtain ⟨u, v, m, r, q⟩ := h.ex
  exact ce_glob hg m r (fun G H => q (wd X) G H rfl) hd
end Z

/-! Z18: sorted of a list of values that can be compared place by place. -/
namespace Z
open PySem PySem.Spec PyProof PyProof.Rows L2
def leD (a b : D) : Bool := !PySem.W.dataLt (toPy b) (toPy a)
def sortD (es : List D) : List D := es.mergeSort leD
/-- what is sorted strictly and the same but for order is it -/
theorem sort_uniq {le : D → D → Bool} : ∀ {l m : List D}, l.Perm m → l.Pairwise (fun a b => le a b = true) → m.Pairwise (fun a b => le b a = false) → l = m
  | [], m, p, _, _ => (List.Perm.eq_nil p.symm).symm
  | x :: l, [], p, _, _ => absurd p.length_eq (by simp)
  | x :: l, y :: m, p, hl, hm => by
    have e : x = y := by
      rcases List.mem_cons.mp (p.mem_iff.mp (List.mem_cons_self (a := x) (l := l))) with e | hx
      · exact e
      · rcases List.mem_cons.mp (p.mem_iff.mpr (List.mem_cons_self (a := y) (l := m))) with e | hy
        · exact e.symm
        · have a := (List.pairwise_cons.mp hl).1 y hy
          have b := (List.pairwise_cons.mp hm).1 x hx
          rw [a] at b; cases b
    subst e
    rw [sort_uniq p.cons_inv (List.pairwise_cons.mp hl).2 (List.pairwise_cons.mp hm).2]
theorem leD_tot : PySem.W.TotalLe leD := PySem.W.sortLe_total (PyProof.Rows.listOrd PyProof.Rows.itemOrd) false fun b : D => PySem.W.keyToks (toPy b)
def insD (x : D) : List D → List D
  | [] => [x]
  | y :: r => if leD x y = true then x :: y :: r else y :: insD x r
def isortD : List D → List D
  | [] => []
  | x :: r => insD x (isortD r)
def strictD : List D → Bool
  | x :: y :: r => !leD y x && strictD (y :: r)
  | _ => true
/-- sorted, worked out where no two are of one rank -/
def srtE (es : List D) : List D := if strictD (isortD es) = true then isortD es else sortD es
theorem insD_perm (x : D) : ∀ l : List D, (insD x l).Perm (x :: l)
  | [] => List.Perm.refl _
  | y :: r => by
    unfold insD
    split
    · exact List.Perm.refl _
    · exact ((insD_perm x r).cons y).trans (List.Perm.swap x y r)
theorem isortD_perm : ∀ l : List D, (isortD l).Perm l
  | [] => List.Perm.refl _
  | x :: r => (insD_perm x (isortD r)).trans ((isortD_perm r).cons x)
theorem strict_pw : ∀ {l : List D}, strictD l = true → l.Pairwise (fun a b => leD b a = false)
  | [], _ => List.Pairwise.nil
  | [x], _ => List.pairwise_singleton _ _
  | x :: y :: r, h => by
    have h : (!leD y x && strictD (y :: r)) = true := h
    obtain ⟨h1, h2⟩ := Bool.and_eq_true_iff.mp h
    have h1 : leD y x = false := by simpa using h1
    have ih := strict_pw h2
    refine List.pairwise_cons.mpr ⟨fun z hz => ?_, ih⟩
    rcases List.mem_cons.mp hz with e | hz
    · rw [e]; exact h1
    · have h3 := (List.pairwise_cons.mp ih).1 z hz
      cases q : leD z x with
      | false => rfl
      | true =>
        have t1 : leD x y = true := (leD_tot.total x y).resolve_right (by rw [h1]; exact Bool.false_ne_true)
        have := leD_tot.trans z x y q t1
        rw [h3] at this
        cases this
theorem srtE_eq (es : List D) : srtE es = sortD es := by
  unfold srtE
  split
  · rename_i h
    refine (sort_uniq (le := leD) ?_ ?_ (strict_pw h)).symm
    · exact (List.mergeSort_perm es leD).trans (isortD_perm es).symm
    · exact List.pairwise_mergeSort leD_tot.trans (fun a b => Bool.or_eq_true_iff.mpr (leD_tot.total a b)) es
  · rfl
def alikeD (es : List D) : Bool := es.all fun a => es.all fun b => PySem.W.alike (toPy a) (toPy b)
def tupsD (es : List D) : Bool := es.all fun d => match d with
  | .tup (_ :: _) => true
  | _ => false
def atomsD (es : List D) : Bool := es.all fun d => match d with
  | .tup _ => false
  | .non => false
  | _ => true
/-- what may be sorted -/
def sortOk (es : List D) : Bool := shps 40 es && alikeD es && (tupsD es || atomsD es) && fits es.length
def oSort : Fn := fun ds S => match ds with
  | [d] => (match rd S d with
    | .lst es => if sortOk es = true then .ok (.lst (srtE es)) S else .bad
    | _ => .bad)
  | _ => .bad
theorem eachR {U : Wd} {G : Gh} {H : Hp} : ∀ {es : List D} {vs : List V} {us : List Value}, DVs U G H es vs → Vals vs us → PySem.W.EachIs (fun (u : Value) (b : D × V) => RelV b.2 u ∧ DV U G H b.1 b.2) us (es.zip vs)
  | [], vs, us, h, r => by
    have h : vs = [] := h
    subst h
    cases r
    exact .nil
  | d :: es, _, us, ⟨v, vs, e, h1, h2⟩, r => by
    subst e
    cases r with
    | cons r1 r2 => exact .cons ⟨r1, h1⟩ (eachR h2 r2)
theorem each_out {U : Wd} {G : Gh} {H : Hp} : ∀ {us : List Value} {bs : List (D × V)}, PySem.W.EachIs (fun (u : Value) (b : D × V) => RelV b.2 u ∧ DV U G H b.1 b.2) us bs → Vals (bs.map (·.2)) us ∧ DVs U G H (bs.map (·.1)) (bs.map (·.2))
  | _, _, .nil => ⟨.nil, rfl⟩
  | _, _, .cons h t => ⟨.cons h.1 (each_out t).1, ⟨_, _, rfl, h.2, (each_out t).2⟩⟩
theorem shps_mem {k : Nat} : ∀ {ds : List D}, shps (k + 1) ds = true → ∀ d ∈ ds, shp k d = true
  | [], _, _, h => by cases h
  | x :: ds, hs, d, h => by
    have hs : (shp k x && shps (k + 1) ds) = true := by simpa [shps] using hs
    obtain ⟨h1, h2⟩ := Bool.and_eq_true_iff.mp hs
    rcases List.mem_cons.mp h with e | h
    · rw [e]; exact h1
    · exact shps_mem h2 d h
theorem zip_fst {α β : Type} : ∀ {xs : List α} {ys : List β}, xs.length = ys.length → (xs.zip ys).map (·.1) = xs
  | [], _, _ => rfl
  | x :: xs, [], h => by cases h
  | x :: xs, y :: ys, h => by rw [List.zip_cons_cons, List.map_cons, zip_fst (by simpa using h)]
section
variable {X : Cx} {pos : Pos} {k : Nat}
theorem cb_sort (hr : Room k X.A) : CB X (.builtin "sorted") oSort := fun W σ pins s σ' H xs us Q I rxs ⟨G, S, ds, rs, q, g⟩ => by
  unfold oSort at g
  split at g
  case h_2 => exact g.elim
  rename_i d
  split at g
  case h_2 => exact g.elim
  rename_i es e
  split at g
  case isFalse => exact g.elim
  rename_i ok
  obtain ⟨v, rfl, dv⟩ := one_of q
  obtain ⟨u, rfl, ru⟩ := rxs.one
  obtain ⟨p, vs, rfl, t, qs⟩ := rd_lst rs e dv
  obtain rfl : u = Value.ref p := ru
  obtain ⟨its, rv, hl, hz⟩ := I.list t
  obtain ⟨ok3, okl⟩ := Bool.and_eq_true_iff.mp ok
  obtain ⟨ok2, okk⟩ := Bool.and_eq_true_iff.mp ok3
  obtain ⟨oks, oka⟩ := Bool.and_eq_true_iff.mp ok2
  have hlen : es.length = vs.length := qs.length.symm
  have hmem : ∀ b ∈ es.zip vs, b.1 ∈ es := fun b hb => (List.of_mem_zip (show (b.1, b.2) ∈ _ from hb)).1
  have ea := eachR qs rv
  have fst : (es.zip vs).map (fun b => toPy b.1) = es.map toPy := by
    have : (es.zip vs).map (fun b => toPy b.1) = ((es.zip vs).map (·.1)).map toPy := by rw [List.map_map]; rfl
    rw [this, zip_fst hlen]
  have dep : ∀ b ∈ es.zip vs, (toPy b.1).depth ≤ 40 := fun b hb => Nat.le_trans (shp_ok 39 b.1 (shps_mem oks b.1 (hmem b hb))).2 (by decide)
  have rd_ : PySem.W.EachIs (fun (u : Value) (b : D × V) => ∃ as, PySem.Reads s.heap u (toPy b.1) as) its (es.zip vs) := by
    have aux : ∀ {us : List Value} {bs : List (D × V)}, (∀ b ∈ bs, shp 39 b.1 = true) → PySem.W.EachIs (fun (u : Value) (b : D × V) => RelV b.2 u ∧ DV (wd X) G H b.1 b.2) us bs → PySem.W.EachIs (fun (u : Value) (b : D × V) => ∃ as, PySem.Reads s.heap u (toPy b.1) as) us bs := by
      intro us bs hs h
      induction h with
      | nil => exact .nil
      | cons h1 _ ih => exact .cons (Dp.reads I _ _ _ (h1.2.dp (hs _ List.mem_cons_self)) h1.1) (ih fun b hb => hs b (List.mem_cons_of_mem _ hb))
    exact aux (fun b hb => shps_mem oks b.1 (hmem b hb)) ea
  refine PySem.W.sorted_data (enc := fun b : D × V => toPy b.1) (R := fun (u : Value) (b : D × V) => RelV b.2 u ∧ DV (wd X) G H b.1 b.2) hl.isList ea rd_ ?_ ?_ ?_ ?_ ?_
  · intro x hx y hy
    rw [fst] at hx hy
    obtain ⟨a, ha, rfl⟩ := List.mem_map.mp hx
    obtain ⟨b, hb, rfl⟩ := List.mem_map.mp hy
    exact List.all_eq_true.mp (List.all_eq_true.mp oka a ha) b hb
  · rw [show (es.zip vs).map (fun b : D × V => toPy b.1) = es.map toPy from fst]
    rcases Bool.or_eq_true_iff.mp okk with h | h
    · refine .inl fun x hx => ?_
      obtain ⟨a, ha, rfl⟩ := List.mem_map.mp hx
      have := List.all_eq_true.mp h a ha
      cases a with
      | tup r => cases r with
        | nil => cases this
        | cons y r => exact ⟨_, _, rfl⟩
      | _ => cases this
    · refine .inr fun x hx => ?_
      obtain ⟨a, ha, rfl⟩ := List.mem_map.mp hx
      have h1 := List.all_eq_true.mp h a ha
      have h2 := shp_ok 39 a (shps_mem oks a ha)
      cases a with
      | tup r => cases h1
      | non => cases h1
      | bl b => exact ⟨fun e => (by cases e), fun xs e => by cases e⟩
      | int b => exact ⟨fun e => (by cases e), fun xs e => by cases e⟩
      | str b => exact ⟨fun e => (by cases e), fun xs e => by cases e⟩
      | lst b => exact ⟨fun e => (by cases e), fun xs e => by cases e⟩
      | _ => have := shps_mem oks _ ha; simp [shp] at this
  · rw [List.length_zip, ← hlen, Nat.min_self]; exact fits_le okl
  · intro b hb
    have := dep b hb
    have := hr.un
    show X.A.units + 2 + (toPy b.1).depth < cLine
    omega
  · intro out ol eo
    obtain ⟨o1, o2⟩ := each_out eo
    have key : ((es.zip vs).mergeSort (PySem.W.dataLe false fun b : D × V => toPy b.1)).map (·.1) = sortD es := by
      unfold sortD
      rw [List.map_mergeSort (s := leD)]
      · rw [zip_fst hlen]
      · intro a _ b _; rfl
    rw [key, ← srtE_eq] at o2
    have lo : (((es.zip vs).mergeSort (PySem.W.dataLe false fun b : D × V => toPy b.1)).map (·.2)).length ≤ sizeLine := by
      rw [List.length_map, List.length_mergeSort, List.length_zip, ← hlen, Nat.min_self]; exact fits_le okl
    obtain ⟨ep, he'⟩ := PyProof.Rows.sortedAll_at s.heap its out.toArray
    refine ⟨.ref _, upd H (s.heap.objs.size + 1) (.lst _), I.laid (t' := s.toks) (fun _ _ => PyProof.Rows.sortedAll_old) (Nat.le_succ _) ⟨lo, out, ep, o1, by simpa using he'⟩, rfl, ?_⟩
    exact Go.new g rs (I.hok.fresh (Nat.le_succ _)) (new_lst rs (I.hok.fresh (Nat.le_succ _)) o2)
end
end Z

/-! Z19: list(range(..)), sorted of a list or a dict. -/
namespace Z
open PySem PySem.Spec PyProof PyProof.Rows L2
theorem rowV {U : Wd} {G : Gh} {H : Hp} : ∀ (n : Nat) (a : Int), DVs U G H (irow a n) ((List.range n).map fun i : Nat => V.int (a + (i : Int)))
  | 0, _ => rfl
  | n + 1, a => by
    rw [List.range_succ_eq_map, List.map_cons, List.map_map]
    refine ⟨_, _, rfl, by show V.int (a + (0 : Nat)) = V.int a; simp, ?_⟩
    have z := rowV (U := U) (G := G) (H := H) n (a + 1)
    have e : ((fun i : Nat => V.int (a + (i : Int))) ∘ Nat.succ) = fun i : Nat => V.int (a + 1 + (i : Int)) := funext fun i => by
      show V.int (a + ((i + 1 : Nat) : Int)) = _
      congr 1
      omega
    rw [e]
    exact z
section
variable {X : Cx} {pos p p2 p3 : Pos}
def eLr1 (ma : E) : E := fun ρ S => (ma ρ S).bind fun d S => match d with
  | .int j => if small j = true then .ok (.lst (irow 0 j.toNat)) S else .bad
  | _ => .bad
def eLr2 (ma mb : E) : E := fun ρ S => (ma ρ S).bind fun d S => (mb ρ S).bind fun d2 S => match d, d2 with
  | .int i, .int j => if small i = true ∧ small j = true ∧ fits (j - i).toNat = true then .ok (.lst (irow i (j - i).toNat)) S else .bad
  | _, _ => .bad
theorem ce_lr1 {a : Expr} {ma : E} (hc : X.calm = true) (hg : Gl X "list") (hm : X.mg "list" = none) (hg2 : Gl X "range") (hm2 : X.mg "range" = none) (ha : CE X a ma) (na : starEach [a] X.env = (false, eval a X.env) :: starEach [] X.env := by rfl)
    (nb : starEach [.Call (.Name "range" p2) [a] [] p3] X.env = (false, eval (.Call (.Name "range" p2) [a] [] p3) X.env) :: starEach [] X.env := by rfl) : CE X (.Call (.Name "list" p) [.Call (.Name "range" p2) [a] [] p3] [] pos) (eLr1 ma) := fun W tk => PE.imp (pe_listRg hc hg hm (prg_1 hg2 hm2 (ha W tk) na) nb) fun σ H Q ⟨G, ρ, S, rs, re, h⟩ => by
  obtain ⟨G0, ρ0, S0, a, b, c⟩ := tEv.bind rs re h
  refine ⟨G0, ρ0, S0, a, b, Go.mono c fun v H1 ⟨G1, d, S1, s, rs1, re1, dv, g⟩ => ?_⟩
  split at g
  · rename_i j
    have dv : v = V.int j := dv
    split at g
    · rename_i hs
      obtain ⟨l1, l2⟩ := small_of hs
      refine ⟨j, dv, ⟨by omega, by omega, by omega, by omega, by omega⟩, fun q hq => ?_⟩
      refine Go.new g rs1 hq (new_lst rs1 hq ?_)
      have z := rowV (U := wd X) (G := G1) (H := H1) j.toNat 0
      unfold rgV
      rw [show j - 0 = j by omega]
      exact z
    · exact g.elim
  · exact g.elim
theorem ce_lr2 {a a2 : Expr} {ma mb : E} (hc : X.calm = true) (hg : Gl X "list") (hm : X.mg "list" = none) (hg2 : Gl X "range") (hm2 : X.mg "range" = none) (ha : CE X a ma) (hb : CE X a2 mb) (na : starEach [a, a2] X.env = (false, eval a X.env) :: starEach [a2] X.env := by rfl) (na2 : starEach [a2] X.env = (false, eval a2 X.env) :: starEach [] X.env := by rfl) (na3 : (backTo p3 (starEach [a2] X.env)).any (·.1) = false := by rfl)
    (nb : starEach [.Call (.Name "range" p2) [a, a2] [] p3] X.env = (false, eval (.Call (.Name "range" p2) [a, a2] [] p3) X.env) :: starEach [] X.env := by rfl) : CE X (.Call (.Name "list" p) [.Call (.Name "range" p2) [a, a2] [] p3] [] pos) (eLr2 ma mb) := fun W tk => PE.imp (pe_listRg hc hg hm (prg_2 hg2 hm2 (ha W tk) (hb W tk) na na2 na3) nb) fun σ H Q ⟨G, ρ, S, rs, re, h⟩ => by
  obtain ⟨G0, ρ0, S0, a, b, c⟩ := tEv.bind rs re h
  refine ⟨G0, ρ0, S0, a, b, Go.mono c fun v H1 ⟨G1, d, S1, s, rs1, re1, dv, g⟩ => ?_⟩
  obtain ⟨G0, ρ0, S0, a, b, c⟩ := tEv.bind rs1 re1 g
  refine ⟨G0, ρ0, S0, a, b, Go.mono c fun v2 H2 ⟨G2, d2, S2, s2, rs2, re2, dv2, g⟩ => ?_⟩
  cases d with
  | int i =>
    cases d2 with
    | int j =>
      have dv : v = V.int i := dv
      have dv2 : v2 = V.int j := dv2
      dsimp only at g
      split at g
      · rename_i hs
        obtain ⟨l1, l2⟩ := small_of hs.1
        obtain ⟨l3, l4⟩ := small_of hs.2.1
        have hz := Nat.le_of_ble_eq_true hs.2.2
        exact ⟨i, j, dv, dv2, ⟨by omega, by omega, by omega, by omega, by omega⟩, fun q hq => Go.new g rs2 hq (new_lst rs2 hq (rowV (U := wd X) (G := G2) (H := H2) (j - i).toNat i))⟩
      · exact g.elim
    | _ => exact g.elim
  | _ => exact g.elim
/-- sorted: of a list, or of a dict -/
def oSorted : Fn := fun ds S => match ds with
  | [d] => (match rd S d with
    | .lst _ => oSort [d] S
    | _ => oSortDS [d] S)
  | _ => .bad
theorem cb_sorted {k : Nat} (hr : Room k X.A) (hc : X.calm = true) : CB X (.builtin "sorted") oSorted := fun W σ pins s σ' H xs us Q I rxs ⟨G, S, ds, rs, q, g⟩ => by
  unfold oSorted at g
  split at g
  · rename_i d
    split at g
    · exact cb_sort hr W σ pins s σ' H xs us Q I rxs ⟨G, S, _, rs, q, g⟩
    · exact cb_sortDS hc W σ pins s σ' H xs us Q I rxs ⟨G, S, _, rs, q, g⟩
  · exact g.elim
theorem repDV {U : Wd} {G : Gh} {H : Hp} {ds : List D} {vs : List V} (q : DVs U G H ds vs) : ∀ n : Nat, DVs U G H (List.replicate n ds).flatten (List.replicate n vs).flatten
  | 0 => rfl
  | n + 1 => by
    rw [List.replicate_succ, List.replicate_succ, List.flatten_cons, List.flatten_cons]
    exact q.append (repDV q n)
/-- [..] * k -/
def eRepL (ma : As) (mb : E) : E := fun ρ S => (ma ρ S).bind fun as S => if fits as.length = true then (mb ρ S).bind fun k S => (match k with
  | .int i => if 0 ≤ i ∧ i ≤ 1000 ∧ as.length ≤ 1000 then .ok (.lst (List.replicate i.toNat as).flatten) S else .bad
  | _ => .bad) else .bad
theorem ce_repL {es : List Expr} {b : Expr} {ma : As} {mb : E} (h : CA X es ma) (hb : CE X b mb) : CE X (.BinOp (.List es p) .Mult b pos) (eRepL ma mb) := fun W tk => PE.imp (pe_op op_rep (pe_lst (h W tk)) (hb W tk)) fun σ H Q ⟨G, ρ, S, rs, re, h⟩ => by
  obtain ⟨G0, ρ0, S0, a, b, c⟩ := tAv.bind rs re h
  refine ⟨G0, ρ0, S0, a, b, Go.mono c fun vs H1 ⟨G1, ds, S1, s, rs1, re1, dvs, g⟩ => ?_⟩
  split at g
  · rename_i hf
    refine ⟨by rw [dvs.length]; exact fits_le hf, fun q hq => ?_⟩
    have st := step_new (o := .lst vs) rs1 hq
    have g2 := Go.step st g
    obtain ⟨G0, ρ0, S0, a, b, c⟩ := tEv.bind (rel_new (o := .lst vs) rs1 hq) (re1.mono st) g2
    refine ⟨G0, ρ0, S0, a, b, Go.mono c fun v2 H2 ⟨G2, d2, S2, s2, rs2, re2, dv2, g⟩ => ?_⟩
    have at2 : H2 q = some (.lst vs) := s2.keep q _ upd_same (.inl (rs1.ns hq))
    have dvs2 := (dvs.mono st).mono s2
    cases d2 with
    | int i =>
      have dv2 : v2 = V.int i := dv2
      dsimp only at g
      split at g
      · rename_i hk
        refine ⟨q, i, vs, rfl, dv2, at2, by omega, by omega, ?_, fun q2 hq2 => Go.new g rs2 hq2 (new_lst rs2 hq2 (repDV dvs2 _))⟩
        rw [dvs.length, sizeLine_eq]
        have : ds.length * i.toNat ≤ 1000 * 1000 := Nat.mul_le_mul hk.2.2 (by omega)
        omega
      · exact g.elim
    | _ => exact g.elim
  · exact g.elim
end
end Z

/-! ZX: list comprehensions of one source that let exceptions out. -/
namespace Z
open PySem PySem.Spec PyProof PyProof.Rows L2 HandSPX
theorem frameOf_eq {a b : PySem.Env} (h : a.frame = b.frame) : PySem.frameOf a = PySem.frameOf b := by
  unfold PySem.frameOf
  rw [h]
theorem noteFrame_eq {a b : PySem.Env} {e : Value} (h : a.frame = b.frame) : noteFrame e a = noteFrame e b := by
  unfold noteFrame
  rw [h, frameOf_eq h]
section
variable {M : Model} {A : Around} {E : Value → Shared → Prop} {s : Shared} {Z : Obj → Prop} {base : Heap} {env : PySem.Env} {outer : List PySem.Env} {L e : Addr}
/-- noted by another frame, now by this one -/
theorem looks_overZ {fl : Value} {Q : Unit → Shared → Prop} (hZ : Steady Z) (hfr : A.frames = some (env :: outer)) (hf : env.frame = some L) (hkb : base.StaysIn s.heap) (hen : base.get? e = none) (hl : s.heap.FunFrames base (env :: outer)) (ht : TracedZ s.heap base e Z fl) (hne : (fl == rawInt L) = false)
    (hQ : ∀ h', HeldZ base (env :: outer) e Z L h' → s.heap.UpToSlots h' → Q () { s with heap := h' }) : wpAny M A (noteFrame (.ref e) env) Q E s := by
  obtain ⟨oe, vs, T, oT, ts, he, hz, hd, h1, hnT, hTe, hT, hdT, h3⟩ := ht
  unfold noteFrame
  simp only [hf]
  refine wpAny_bind (wpAny_field he hd h1 ?_)
  rw [if_pos (show (Value.ref T != Value.none) = true from by simp)]
  refine wpAny_bind (wpAny_field hT hdT h3 ?_)
  rw [if_neg (by rw [hne]; decide)]
  refine wpAny_bind (wpAny_setField hT hdT (Array.getElem?_eq_some_iff.mp h3).1 ?_)
  have other : ∀ b, b ≠ T → (s.heap.update T (Obj.mapFields (·.setIfInBounds 3 Value.none))).get? b = s.heap.get? b := fun b hb => Heap.get?_update_other _ _ (Ne.symm hb)
  have noRecord : ∀ b o, s.heap.get? b = some o → (∀ vs, o.data ≠ .fields vs) → b ≠ T := fun b o hb hnf q => by
    rw [q, hT] at hb; injection hb with hb; subst hb; exact hnf ts hdT
  refine wpAny_entryZ hZ hfr (hl.of_keeps fun b o hb hnf => ⟨o, (other b (noRecord b o hb hnf)).trans hb, rfl⟩) hf ((other e (Ne.symm hTe)).trans he)
    (fun b o hbo => (other b fun q => by rw [q, hnT] at hbo; cases hbo).trans (hkb b o hbo)) hen hd (Array.getElem?_eq_some_iff.mp h1).1 hz fun h' hN => ?_
  obtain ⟨x1, x2, x3, x4⟩ := hN
  exact hQ h' ⟨x1, hen, x2, x3⟩ fun b o hb hnf => x4 b o ((other b (noRecord b o hb hnf)).trans hb) hnf
theorem passOn_ok {α : Type} {what : String} {cenv : PySem.Env} {l : List PySem.Env} {Q : α → Shared → Prop} (hf : cenv.frame = some L) (hh : HeldZ base l e Z L s.heap) (hQ : ∀ h', HeldZ base l e Z L h' → s.heap.UpToSlots h' → E (.ref e) { s with heap := h' }) : wpAny M A (PySem.passOn what (.ref e) cenv : Sem α) Q E s := by
  obtain ⟨oe, vs, T, oT, ts, he, hz, hd, h1, r⟩ := id hh.2.2.2
  unfold PySem.passOn
  refine wpAny_bind (wpAny_field he hd h1 ?_)
  rw [if_neg (show ¬ ((Value.ref T == Value.none) = true) from by simp)]
  rw [hf]
  exact wpAny_bind (setFlight_onZ hh fun h' a b => wpAny_throw (hQ h' a b))
/-- what is wanted at a block's end -/
def compPostX (M : Model) (A : Around) (E : Value → Shared → Prop) (use : Option (Value → Sem Unit)) (Q : Value → Shared → Prop) (acc : Value) (ce : PySem.Env) (r : Result) (s' : Shared) : Prop :=
  match r, use with
  | .ok _, none => ∃ m, s'.heap.Ns ce.locals m ∧ ∀ h', Heap.SameBut ce.locals s'.heap h' → Q acc { s' with heap := h' }
  | .ok _, some u => wpAny M A (u acc) (fun _ s'' => ∃ m, s''.heap.Ns ce.locals m ∧ ∀ h', Heap.SameBut ce.locals s''.heap h' → Q .none { s'' with heap := h' }) E s'
  | .error x, _ => ∃ m, s'.heap.Ns ce.locals m ∧ ∀ h', Heap.SameBut ce.locals s'.heap h' → wpAny M A (PySem.passOn "comprehension.variables-let-go" x ce : Sem Value) (fun _ _ => False) E { s' with heap := h' }
theorem comp_freeX {e : Expr} {scope : Scope} {pos : Pos} {newAcc first : Sem Value} {g : Comprehension} {gs : List Comprehension} {cl : List (Str × Addr)} {use : Option (Value → Sem Unit)} {Q : Value → Shared → Prop}
    (hcl : clausesOf e = g :: gs) (hs : ∀ x, foldedSetIterable g.iter env x = pure x) (hclos : closureFor scope env = pure cl)
    (hkind : scope.kind = .function) (hnames : ∀ x ∈ scope.names, x.2 = .local → scope.names.lookup x.1 = some .local)
    (h : wpAny M A first (fun x s₁ => wpAny M A (pyIter x) (fun it s₂ => wpAny M A newAcc (fun acc s₃ =>
      wpAny M A (newFunctionEnv scope env.globals cl [] env.qual none .none (some env)) (fun cenv s₄ =>
        codeAny M A (.compStart e 0 it acc { cenv with scope := relabel scope env }) (compPostX M A E use Q acc { cenv with scope := relabel scope env }) s₄) E s₃) E s₂) E s₁) E s) :
    wpAny M A (comprehension e scope env pos newAcc false first use) Q E s := by
  unfold comprehension
  rw [hclos, hcl]
  refine wpAny_bind (wpAny_mono h (fun x s₁ h₁ => wpAny_bind (wpAny_standAt (wpAny_bind (wpAny_of_eq (hs x) (wpAny_bind (wpAny_holding (wpAny_mono h₁ (fun it s₂ h₂ =>
    wpAny_standIf (wpAny_bind (wpAny_mono h₂ (fun acc s₃ h₃ => wpAny_bind (wpAny_pure (wpAny_bind (wpAny_mono h₃ (fun cenv s₄ h₄ => ?_) fun _ _ h' => h')))) fun _ _ h' => h')))
      fun _ _ h' => h'))))))) fun _ _ h' => h')
  dsimp only
  have hv : ∀ x ∈ (scope.names.filter fun x => (x.2 == .local || x.2 == .cell) && x.1 != (".0" : Str)).reverse, x.2 = .local →
      Env.kindOf { cenv with scope := relabel scope env } x.1 = some .local := fun x hx hl => lookup_relabel_local (hnames x (List.mem_filter.mp (List.mem_reverse.mp hx)).1 hl)
  have hv' : ∀ x ∈ (scope.names.filter fun x => (x.2 == .local || x.2 == .cell) && x.1 != (".0" : Str)).reverse.drop 1 ++ (scope.names.filter fun x => (x.2 == .local || x.2 == .cell) && x.1 != (".0" : Str)).reverse.take 1,
      x.2 = .local → Env.kindOf { cenv with scope := relabel scope env } x.1 = some .local := fun x hx hl => by
    rcases List.mem_append.mp hx with h1 | h1
    · exact hv x (List.mem_of_mem_drop h1) hl
    · exact hv x (List.mem_of_mem_take h1) hl
  refine wpAny_holding (wpAny_bind (wpAny_attempt (wpAny_holding (wpAny_run (codeAny_mono h₄ fun r s' hr => ?_)))))
  cases r with
  | ok f =>
    cases use with
    | none =>
      obtain ⟨m, hn, hr⟩ := hr
      exact wpAny_bind (wpAny_holding (wpAny_comp_letGo (cenv := { cenv with scope := relabel scope env }) hkind _ s' m hv hn fun h' m' _ hs' => wpAny_pure (hr h' hs')))
    | some u =>
      refine wpAny_bind (wpAny_rule (wpAny_bind (wpAny_holding (wpAny_mono hr (fun _ s'' hr' => ?_) fun _ _ h' => h'))))
      obtain ⟨m, hn, hr'⟩ := hr'
      exact wpAny_bind (wpAny_comp_letGo (cenv := { cenv with scope := relabel scope env }) hkind _ s'' m hv' hn fun h' m' _ hs' => wpAny_pure (hr' h' hs'))
  | error x =>
    have hr' : ∃ m, s'.heap.Ns cenv.locals m ∧ ∀ h', Heap.SameBut cenv.locals s'.heap h' → wpAny M A (PySem.passOn "comprehension.variables-let-go" x { cenv with scope := relabel scope env } : Sem Value) (fun _ _ => False) E { s' with heap := h' } := by cases use <;> exact hr
    obtain ⟨m, hn, hr⟩ := hr'
    exact wpAny_bind (wpAny_holding (wpAny_comp_letGo (cenv := { cenv with scope := relabel scope env }) hkind _ s' m hv hn fun h' m' _ hs' => wpAny_mono (hr h' hs') (fun _ _ f => f.elim) fun _ _ y => y))
end
abbrev blkX (X : Cx) (s : Shared) (H : Hp) (scope : Scope) (cenv : PySem.Env) (fp : List Addr) (xe : Value → Shared → Prop) : Cx := { X.blk s H scope cenv fp with xe := xe }
theorem blk_xe {X : Cx} {s0 : Shared} {H0 : Hp} {scope : Scope} {ce : PySem.Env} {fp : List Addr} {xe : Value → Shared → Prop} {pins : List (Addr × Obj)} {σ : L2.St} {H : Hp} {s : Shared} (I : Inv (X.blk s0 H0 scope ce fp) pins σ H s) : Inv (blkX X s0 H0 scope ce fp xe) pins σ H s :=
  ⟨⟨I.ok.1, I.ok.2, I.ok.3, I.ok.4, I.ok.5, I.ok.6, I.ok.7, I.ok.8, I.ok.9, I.ok.10, I.ok.11, I.ok.12, I.ok.13, I.ok.14, I.ok.15, I.ok.16, I.ok.17, I.ok.18⟩, I.os, I.bare, I.base, I.loc, I.cell, I.free, I.freeC, I.pin, I.hok, I.len⟩
theorem xe_blk {X : Cx} {s0 : Shared} {H0 : Hp} {scope : Scope} {ce : PySem.Env} {fp : List Addr} {xe : Value → Shared → Prop} {pins : List (Addr × Obj)} {σ : L2.St} {H : Hp} {s : Shared} (I : Inv (blkX X s0 H0 scope ce fp xe) pins σ H s) : Inv (X.blk s0 H0 scope ce fp) pins σ H s :=
  ⟨⟨I.ok.1, I.ok.2, I.ok.3, I.ok.4, I.ok.5, I.ok.6, I.ok.7, I.ok.8, I.ok.9, I.ok.10, I.ok.11, I.ok.12, I.ok.13, I.ok.14, I.ok.15, I.ok.16, I.ok.17, I.ok.18⟩, I.os, I.bare, I.base, I.loc, I.cell, I.free, I.freeC, I.pin, I.hok, I.len⟩

theorem funs_ne {h h' B : Heap} {C : Addr} (o : ∀ b, b ≠ C → h'.get? b = h.get? b) (hb : ∀ b o, (PySem.W.hideAll B [C]).get? b = some o → B.get? b = some o) : ∀ {l : List PySem.Env}, C ∉ frs l → h.FunFrames B l → h'.FunFrames (PySem.W.hideAll B [C]) l
  | [], _, _ => trivial
  | env :: l, hc, ⟨k, ⟨L, o', hf, hn, ho, hd⟩, r⟩ => by
    have hm : frs (env :: l) = L :: frs l := by simp [frs, hf]
    rw [hm] at hc
    have hne : L ≠ C := fun e => hc (by rw [e]; exact List.mem_cons_self)
    refine ⟨k, ⟨L, o', hf, ?_, (o L hne).trans ho, hd⟩, funs_ne o hb (fun z => hc (List.mem_cons_of_mem _ z)) r⟩
    cases e : (PySem.W.hideAll B [C]).get? L with
    | none => rfl
    | some u => have := hb L u e; rw [hn] at this; cases this
theorem blk_takes {X : Cx} {W : WX} {pins : List (Addr × Obj)} {σ : L2.St} {H3 : Hp} {s3 : Shared} {scope : Scope} {ce : PySem.Env} {fp : List Addr} {use : Option (Value → Sem Unit)} {Qf : Value → Shared → Prop} {acc : Value}
    (tk : Takes X W) (hs : X.stack = X.env :: X.outer) (hf : X.env.frame = some X.env.locals) (I3 : Inv X pins σ H3 s3) (cL : ce.locals = s3.heap.objs.size) (cF : ce.frame = X.env.frame) (f3 : ∀ b ∈ fp, FpOk X pins H3 b) :
    Takes (blkX X s3 H3 scope ce fp (notedBy (model X.prog X.w) X.A ce fun e s' => compPostX (model X.prog X.w) X.A X.xe use Qf acc ce (.error e) s')) (fun cls d _ H' => W cls d σ H') := by
  rintro u s' ⟨a, B, sI, pinsY, σY, H', cls, d, rfl, IY, nb, up, sky, na, os, ag, w⟩
  have hC : ce.locals ∉ frs X.stack := fun z => by
    rcases List.mem_cons.mp (I3.stkSub _ z) with e | e
    · have := I3.lt
      rw [← e, cL] at this
      exact Nat.lt_irrefl _ this
    · exact I3.nofs (Nat.le_of_eq cL.symm) e
  have hLC : X.env.locals ≠ ce.locals := fun e => by
    have := I3.lt
    rw [e, cL] at this
    exact Nat.lt_irrefl _ this
  have hfr : X.A.frames = some (X.env :: X.outer) := by rw [I3.ok.frames, hs]
  have sky : Sky B X.stack a (Zc cls d) ce.locals s'.heap := sky
  have nb : ∀ b o, sI.heap.get? b = some o → b ∉ frs X.stack → B.get? b = some o := nb
  rw [hs] at sky
  show wpAny (model X.prog X.w) X.A (noteFrame (.ref a) ce) _ _ s'
  rw [noteFrame_eq cF]
  -- the block's namespace
  obtain ⟨m, hn, _⟩ := IY.loc
  have hn : sI.heap.Ns ce.locals m := hn
  obtain ⟨oC, es, ep, hoC, hdC, rC⟩ := hn
  have hB : B.get? ce.locals = some oC := nb _ _ hoC hC
  have fin : ∀ h1, HeldZ B (X.env :: X.outer) a (Zc cls d) X.env.locals h1 → s'.heap.UpToSlots h1 → compPostX (model X.prog X.w) X.A X.xe use Qf acc ce (.error (.ref a)) { s' with heap := h1 } := by
    intro h1 hh up1
    have hC1 : h1.get? ce.locals = some oC := hh.1 _ _ hB
    have key : ∃ m, h1.Ns ce.locals m ∧ ∀ h', Heap.SameBut ce.locals h1 h' → wpAny (model X.prog X.w) X.A (PySem.passOn "comprehension.variables-let-go" (.ref a) ce : Sem Value) (fun _ _ => False) X.xe { s' with heap := h' } := by
      refine ⟨m, ⟨oC, es, ep, hC1, hdC, rC⟩, fun h' sb => ?_⟩
      have hide : ∀ b o, (PySem.W.hideAll B [ce.locals]).get? b = some o → B.get? b = some o := fun b o e => PySem.W.of_hideAll _ e
      have hideN : ∀ b o, (PySem.W.hideAll B [ce.locals]).get? b = some o → b ≠ ce.locals := fun b o e z => by
        rw [z, PySem.W.hideAll_none _ List.mem_cons_self] at e; cases e
      obtain ⟨g1, g2, g3, oe, vs, T, oT, ts, he, hz, hd, h1', hnT, hTe, hT, hdT, h3⟩ := hh
      have noRec : ∀ b o vs, h1.get? b = some o → o.data = .fields vs → b ≠ ce.locals := fun b o vs e dd z => by
        rw [z, hC1] at e; cases e; rw [hdC] at dd; cases dd
      have held : HeldZ (PySem.W.hideAll B [ce.locals]) (X.env :: X.outer) a (Zc cls d) X.env.locals h' := by
        refine ⟨fun b o e => (sb.2 b (hideN b o e)).trans (g1 b o (hide b o e)), ?_, funs_ne sb.2 hide (by rw [← hs]; exact hC) g3, oe, vs, T, oT, ts, (sb.2 a (noRec a oe vs he hd)).trans he, hz, hd, h1', ?_, hTe, (sb.2 T (noRec T oT ts hT hdT)).trans hT, hdT, h3⟩
        · cases e : (PySem.W.hideAll B [ce.locals]).get? a with
          | none => rfl
          | some u => have := hide a u e; rw [g2] at this; cases this
        · cases e : (PySem.W.hideAll B [ce.locals]).get? T with
          | none => rfl
          | some u => have := hide T u e; rw [hnT] at this; cases this
      refine passOn_ok (cF.trans hf) held fun h2 held2 up2 => ?_
      refine tk _ _ ⟨a, PySem.W.hideAll B [ce.locals], { sI with heap := PySem.W.hideAll sI.heap [ce.locals] }, pins, σ, H', cls, d, rfl, ?_, ?_, ?_, ?_, na, os, ag, w⟩
      · have I7 : Inv X pins σ H' sI := I3.call' (ch := fp) IY.os IY.base IY.hok IY.bare fun b hb => ⟨(f3 b hb).2.2.2.1, (f3 b hb).2.1, (f3 b hb).2.2.2.2.1, (f3 b hb).2.2.2.2.2⟩
        have nC : H' s3.heap.objs.size = none := by
          have z : H' ce.locals = none := IY.free
          rw [cL] at z
          exact z
        obtain ⟨f0, f1, f2, f3', f4, f5⟩ := I3.fpOk (Nat.le_refl _) nC
        rw [← cL] at f0 f1 f2 f3' f4 f5
        exact I7.turned (t' := sI.toks) (fun b o hb e => PySem.W.hideAll_get _ e (by simpa using hb)) f0 f1 f3' f4 f5
      · intro b o e hb
        have e1 := PySem.W.of_hideAll _ e
        refine PySem.W.hideAll_get _ (nb b o e1 hb) fun z => ?_
        rw [List.mem_singleton] at z
        rw [z, PySem.W.hideAll_none _ List.mem_cons_self] at e; cases e
      · intro b o e hnf
        have hne : b ≠ ce.locals := fun z => by
          rw [z, PySem.W.hideAll_none _ List.mem_cons_self] at e; cases e
        obtain ⟨s1, e1⟩ := up b o (PySem.W.of_hideAll _ e) hnf
        obtain ⟨s2, e2⟩ := up1 b _ e1 hnf
        obtain ⟨s4, e4⟩ := up2 b _ ((sb.2 b hne).trans e2) hnf
        exact ⟨s4, e4⟩
      · rw [hs]
        exact .inr (.inr held2)
    cases use <;> exact key
  rcases sky with ⟨hB', hn', hl, oe, vs, he, hz, hd, h1⟩ | fl | hh
  · exact look_newZ Zc.steady hfr hl hf he hB' hn' hd h1 hz fin
  · exact looks_onZ Zc.steady hfr hf fl fin
  · refine looks_overZ Zc.steady hfr hf hh.1 hh.2.1 hh.2.2.1 hh.2.2.2 ?_ fin
    simp [rawInt]
    exact fun e => hLC (Int.ofNat.inj e.symm)
def tLcX (wi : TI) (g : TG) (tt : WX → TT) (te : WX → TE) (vs : List Nat) (W : WX) : TE := fun σ H Q => tLc wi g (tt fun c d _ H' => W c d σ H') (te fun c d _ H' => W c d σ H') vs σ H Q
section
variable {X : Cx}
theorem lc_coreX {pins : List (Addr × Obj)} {s : Shared} {σ : L2.St} {H : Hp} {Q : VK} {elt tg iter : Expr} {ifs : List Expr} {scope : Scope} {own : List (Str × Nat)} {pos pos' : Pos} {wi : TI} {g : TG} {tt : WX → TT} {te : WX → TE} {use : Option (Value → Sem Unit)} {Qf : Value → Shared → Prop} {W : WX}
    (hc : X.calm = true) (hN : X.N.Nodup) (tk : Takes X W) (hs : X.stack = X.env :: X.outer) (hf : X.env.frame = some X.env.locals) (I : Inv X pins σ H s) (hi : PI X tg iter wi) (ok : BlkOk X.N X.env.scope scope own)
    (hg : ∀ (s : Shared) (H : Hp) (C : Addr) (cl : List (Str × Addr)) (fp : List Addr) xe, PG (blkX X s H scope (compEnvC scope cl C X.env) fp xe) tg g) (ht : ∀ (s : Shared) (H : Hp) (C : Addr) (cl : List (Str × Addr)) (fp : List Addr) xe W', Takes (blkX X s H scope (compEnvC scope cl C X.env) fp xe) W' → PTs (blkX X s H scope (compEnvC scope cl C X.env) fp xe) ifs (tt W'))
    (he : ∀ (s : Shared) (H : Hp) (C : Addr) (cl : List (Str × Addr)) (fp : List Addr) xe W', Takes (blkX X s H scope (compEnvC scope cl C X.env) fp xe) W' → PE (blkX X s H scope (compEnvC scope cl C X.env) fp xe) elt (te W')) (hsi : ∀ x, foldedSetIterable iter X.env x = pure x)
    (h : tLcX wi g tt te (own.map (·.2)) W σ H Q)
    (hRR : ∀ D (ce : PySem.Env) s' m H', Inv X pins σ H' s' → Q (.ref D) H' → s'.heap.Ns ce.locals m → FpOk X pins H' ce.locals → compPostX (model X.prog X.w) X.A X.xe use Qf (.ref D) ce (.ok .next) s') :
    wpAny (model X.prog X.w) X.A (comprehension (.ListComp elt [⟨tg, iter, ifs, 0⟩] scope pos) scope X.env pos' (newList []) false (eval iter X.env) use) Qf X.xe s := by
  have hfree : ∀ y ∈ scope.names, y.2 = .free → ∃ c, X.env.cells.lookup y.1 = some c := fun y hy e => by
    rcases ok.free y hy e with k | k
    · exact I.ok.has _ (.inl k)
    · exact I.ok.has _ (.inr k)
  refine comp_freeX (use := use) rfl hsi (closure_ok hfree) ok.kind (fun y hy e => by rw [ok.uniq y hy, e])
    (thn (hi.run pins s σ H _ I h) fun xv s1 hx => thn hx fun itv s2 h2 => ?_)
  obtain ⟨it, fp, tn, J, H2, e, I2, T, st2, f2, q⟩ := h2
  subst e
  refine wpAny_newObj_type (newEnv_comp ?_) (by show 0 ≤ sizeLine; decide)
  generalize hD : s2.heap.objs.size = D
  have hDn : H2 D = none := I2.hok.fresh (Nat.le_of_eq hD)
  obtain ⟨Wi, ⟨m0, w0⟩, turn⟩ := q D hDn
  generalize hs3 : ({ s2 with heap := s2.heap.push { cls := .type "list", data := .seq ([] : List Value).toArray } } : Shared) = s3
  have I3 : Inv X pins σ (upd H2 D (.lst [])) s3 := by
    rw [← hs3]
    refine I2.laid (t' := s2.toks) (fun b o e => Heap.get?_push_of_some _ e) (Nat.le_of_eq hD) ⟨Nat.zero_le _, [], 0, .nil, ?_⟩
    rw [← hD]
    exact Heap.get?_push_size _ rfl
  have h3 : s3.heap = s2.heap.push { cls := .type "list", data := .seq ([] : List Value).toArray } := by rw [← hs3]
  have sz : ∀ b ∈ fp, b < s2.heap.objs.size := fun b hb => by
    obtain ⟨o, e, _⟩ := T.obj _ _ st2 b hb
    exact Heap.lt_size e
  have f3 : ∀ b ∈ fp, FpOk X pins (upd H2 D (.lst [])) b ∧ b < s3.heap.objs.size := fun b hb => by
    have hlt := sz b hb
    refine ⟨⟨?_, (f2 b hb).2⟩, by rw [h3, Heap.size_push]; exact Nat.lt_succ_of_lt hlt⟩
    rw [upd_ne (by rw [← hD]; exact Nat.ne_of_lt hlt)]
    exact (f2 b hb).1
  have st3 : tn 0 s3.heap := T.keep _ _ _ st2 fun b _ o e => by rw [h3]; exact Heap.get?_push_of_some _ e
  have I4 := block_start I3 ok hN f3
  have pg := hg s3 (upd H2 D (.lst [])) s3.heap.objs.size (cellsFrom (s3.heap.objs.size + 1) scope.names (cloFrom X.env.cells scope.names [])) fp
  have pt := ht s3 (upd H2 D (.lst [])) s3.heap.objs.size (cellsFrom (s3.heap.objs.size + 1) scope.names (cloFrom X.env.cells scope.names [])) fp
  have pe := he s3 (upd H2 D (.lst [])) s3.heap.objs.size (cellsFrom (s3.heap.objs.size + 1) scope.names (cloFrom X.env.cells scope.names [])) fp
  show codeAny _ _ (.compStart (.ListComp elt [⟨tg, iter, ifs, 0⟩] scope pos) 0 (.ref it) (.ref D) (compEnvC scope (cellsFrom (s3.heap.objs.size + 1) scope.names (cloFrom X.env.cells scope.names [])) s3.heap.objs.size X.env)) (compPostX (model X.prog X.w) X.A X.xe use Qf (.ref D) (compEnvC scope (cellsFrom (s3.heap.objs.size + 1) scope.names (cloFrom X.env.cells scope.names [])) s3.heap.objs.size X.env)) { s3 with heap := pushCells (s3.heap.push { cls := .type "dict", data := .dict #[] }) scope.names }
  have nfp : ∀ b ∈ fp, (upd H2 D (.lst [])) b = none := fun b hb => (f3 b hb).1.1
  generalize hce : compEnvC scope (cellsFrom (s3.heap.objs.size + 1) scope.names (cloFrom X.env.cells scope.names [])) s3.heap.objs.size X.env = ce at I4 pg pt pe ⊢
  have cL : ce.locals = s3.heap.objs.size := by subst hce; rfl
  have cF : ce.frame = X.env.frame := by subst hce; rfl
  generalize hH3 : upd H2 D (.lst []) = H3 at I3 I4 pg pt pe w0 nfp f3
  have tkY := blk_takes (use := use) (Qf := Qf) (acc := .ref D) (scope := scope) (fp := fp) tk hs hf I3 cL cF fun b hb => (f3 b hb).1
  generalize hxe : (notedBy (model X.prog X.w) X.A ce fun e s' => compPostX (model X.prog X.w) X.A X.xe use Qf (.ref D) ce (.error e) s') = xe at tkY
  have pg := pg xe
  have pt := pt xe _ tkY
  have pe := pe xe _ tkY
  generalize hs4 : ({ s3 with heap := pushCells (s3.heap.push { cls := .type "dict", data := .dict #[] }) scope.names } : Shared) = s4 at I4 ⊢
  have I4 := blk_xe (xe := xe) I4
  have st4 : tn 0 s4.heap := T.keep _ _ _ st3 fun b _ o e => by rw [← hs4]; exact pushCells_keeps _ _ _ _ (Heap.get?_push_of_some _ e)
  have stat : ∀ {σ' : L2.St} {H' : Hp} {s' : Shared}, Inv (blkX X s3 H3 scope ce fp xe) [] σ' H' s' → (∀ b ∈ fp, H' b = none) → ∀ b ∈ fp, FpOk (blkX X s3 H3 scope ce fp xe) [] H' b := fun {σ' H' s'} I' hn b hb =>
    ⟨hn b hb, (I'.ok.exf b hb).1, I'.ok.exfs b hb, .inl hb, fun x c e => (I'.ok.exf b hb).2 x c e, fun p hp => absurd (show p ∈ ([] : List (Addr × Obj)) ++ [] from hp) (by simp)⟩
  have loop : codeAny (model X.prog X.w) X.A (.compLoop (.ListComp elt [⟨tg, iter, ifs, 0⟩] scope pos) 0 (.ref it) (.ref D) ce) (compPostX (model X.prog X.w) X.A X.xe use Qf (.ref D) ce) s4 := by
    refine compLoop_any (fun n s' => ∃ i H', Inv (blkX X s3 H3 scope ce fp xe) [] (L2.wipe σ (own.map (·.2))) H' s' ∧ tn i s'.heap ∧ (∀ b ∈ fp, H' b = none) ∧ Wi i n H') ?_ m0 ⟨0, H3, I4, st4, nfp, w0⟩
    rintro n s5 ⟨i, H5, I5, st5, n5, w5⟩
    rw [hxe]
    rcases turn i n H5 w5 with ⟨stop, qq⟩ | ⟨go, Nx, hNx, step⟩
    · have td := T.done (blkX X s3 H3 scope ce fp xe) rfl rfl rfl hc i [] s5 _ H5 (fun _ _ => False) I5 (stat I5 n5) st5 stop
      refine thnF td fun r s6 ⟨hr, I6⟩ => ?_
      subst hr
      have I7 : Inv X pins σ H5 s6 := I3.call' (ch := fp) I6.os I6.base I6.hok I6.bare fun b hb => ⟨(f3 b hb).1.2.2.2.1, (f3 b hb).1.2.1, (f3 b hb).1.2.2.2.2.1, (f3 b hb).1.2.2.2.2.2⟩
      have nC : H5 s3.heap.objs.size = none := by
        have z : H5 ce.locals = none := I6.free
        rw [cL] at z
        exact z
      obtain ⟨m, hn, _⟩ := I6.loc
      have hn : s6.heap.Ns ce.locals m := hn
      exact hRR D ce s6 m H5 I7 qq hn (by rw [cL]; exact I3.fpOk (Nat.le_refl _) nC)
    · have ti := T.item (blkX X s3 H3 scope ce fp xe) rfl rfl rfl hc i [] s5 _ H5 (fun _ _ => False) I5 (stat I5 n5) st5 go
      refine thnF ti fun r s6 ⟨u, hr, h6⟩ => ?_
      subst hr
      refine thnF h6 fun _ s7 ⟨x, H7, I7, r7, y7, st7, n7⟩ => ?_
      have I7' := I7.pinned (stat I7 n7) (T.obj _ _ st7)
      refine thn (pg.run _ s7 _ H7 x u _ I7' r7 (step x H7 y7)) fun _ s8 ⟨σ8, H8, I8, hw8, q8⟩ => ?_
      refine thn (pt.run _ s8 σ8 H8 _ I8 q8) fun b s9 ⟨H9, I9, q9⟩ => ?_
      have fin : ∀ {s' : Shared} {H' : Hp}, Inv (blkX X s3 H3 scope ce fp xe) ([] ++ pinsAt fp s7.heap) σ8 H' s' → Nx H' → ∃ m, m < n ∧ ∃ i H', Inv (blkX X s3 H3 scope ce fp xe) [] (L2.wipe σ (own.map (·.2))) H' s' ∧ tn i s'.heap ∧ (∀ b ∈ fp, H' b = none) ∧ Wi i m H' := fun {s' H'} I' nx => by
        obtain ⟨m', hm, w'⟩ := hNx H' nx
        have pin' : ∀ b ∈ fp, ∀ o, s7.heap.get? b = some o → s'.heap.get? b = some o ∧ H' b = none := fun b hb o e =>
          let z := I'.pin (b, o) (List.mem_append_right _ (List.mem_append_right _ (mem_pinsAt hb e)))
          ⟨z.1, z.2.1⟩
        have hl : (L2.wipe σ (own.map (·.2))).length = σ8.length := by rw [← hw8, wipe_length]
        refine ⟨m', hm, i + 1, H', (I'.unpinned (pins := [])).weak hl (fun j v e => ?_), T.keep _ _ _ st7 fun b hb o e => (pin' b hb o e).1, fun b hb => ?_, w'⟩
        · rw [← hw8] at e
          exact (wipe_some e).1
        · obtain ⟨o, e, _⟩ := T.obj _ _ st7 b hb
          exact (pin' b hb o e).2
      cases b with
      | false =>
        simp only [Bool.false_eq_true, if_false] at q9 ⊢
        exact fin I9 q9
      | true =>
        simp only [if_true] at q9 ⊢
        refine thn (pe.run _ s9 σ8 H9 _ I9 q9) fun z s10 ⟨yv, H10, I10, r10, acc, hD10, hz10, nx⟩ => ?_
        exact app_ok (X := blkX X s3 H3 scope ce fp xe) I10 hD10 hz10 r10 fun s11 I11 => fin I11 nx
  exact codeAny_compStart_list loop (T.self X.A 0 _ _ _ st4 loop)
theorem pe_lcX {elt tg iter : Expr} {ifs : List Expr} {scope : Scope} {own : List (Str × Nat)} {pos : Pos} {wi : TI} {g : TG} {tt : WX → TT} {te : WX → TE} {W : WX} (hc : X.calm = true) (hN : X.N.Nodup) (tk : Takes X W) (hs : X.stack = X.env :: X.outer) (hf : X.env.frame = some X.env.locals) (hi : PI X tg iter wi) (ok : BlkOk X.N X.env.scope scope own)
    (hg : ∀ (s : Shared) (H : Hp) (C : Addr) (cl : List (Str × Addr)) (fp : List Addr) xe, PG (blkX X s H scope (compEnvC scope cl C X.env) fp xe) tg g) (ht : ∀ (s : Shared) (H : Hp) (C : Addr) (cl : List (Str × Addr)) (fp : List Addr) xe W', Takes (blkX X s H scope (compEnvC scope cl C X.env) fp xe) W' → PTs (blkX X s H scope (compEnvC scope cl C X.env) fp xe) ifs (tt W'))
    (he : ∀ (s : Shared) (H : Hp) (C : Addr) (cl : List (Str × Addr)) (fp : List Addr) xe W', Takes (blkX X s H scope (compEnvC scope cl C X.env) fp xe) W' → PE (blkX X s H scope (compEnvC scope cl C X.env) fp xe) elt (te W')) (hsi : ∀ x, foldedSetIterable iter X.env x = pure x := by intro _; rfl) :
    PE X (.ListComp elt [⟨tg, iter, ifs, 0⟩] scope pos) (tLcX wi g tt te (own.map (·.2)) W) := by
  refine ⟨fun pins s σ H Q I h => ?_⟩
  rw [eval_ListComp]
  refine lc_coreX hc hN tk hs hf I hi ok hg ht he hsi h fun D ce s' m H' I' q hn f => ⟨m, hn, fun h'' sb => ?_⟩
  obtain ⟨f0, f1, f2, f3, f4, f5⟩ := f
  exact ⟨.ref D, H', I'.turned (t' := s'.toks) (fun b o hb e => (sb.2 b hb).trans e) f0 f1 f3 f4 f5, rfl, q⟩
theorem ps_setLcX {i : Nat} {y : Str} {py : Pos} {elt tg iter : Expr} {ifs : List Expr} {scope : Scope} {own : List (Str × Nat)} {pos spos : Pos} {wi : TI} {g : TG} {tt : WX → TT} {te : WX → TE} {W : WX} (hc : X.calm = true) (hN : X.N.Nodup) (tk : Takes X W) (hs : X.stack = X.env :: X.outer) (hf : X.env.frame = some X.env.locals) (hy : X.N[i]? = some y) (hyl : X.env.scope.names.lookup y = some .local)
    (hsw : swapsWith (.ListComp elt [⟨tg, iter, ifs, 0⟩] scope pos) (some (.Name y py)) spos.line X.env = pure true) (hi : PI X tg iter wi) (ok : BlkOk X.N X.env.scope scope own)
    (hg : ∀ (s : Shared) (H : Hp) (C : Addr) (cl : List (Str × Addr)) (fp : List Addr) xe, PG (blkX X s H scope (compEnvC scope cl C X.env) fp xe) tg g) (ht : ∀ (s : Shared) (H : Hp) (C : Addr) (cl : List (Str × Addr)) (fp : List Addr) xe W', Takes (blkX X s H scope (compEnvC scope cl C X.env) fp xe) W' → PTs (blkX X s H scope (compEnvC scope cl C X.env) fp xe) ifs (tt W'))
    (he : ∀ (s : Shared) (H : Hp) (C : Addr) (cl : List (Str × Addr)) (fp : List Addr) xe W', Takes (blkX X s H scope (compEnvC scope cl C X.env) fp xe) W' → PE (blkX X s H scope (compEnvC scope cl C X.env) fp xe) elt (te W')) (hsi : ∀ x, foldedSetIterable iter X.env x = pure x := by intro _; rfl) :
    PS X (.Assign [.Name y py] (.ListComp elt [⟨tg, iter, ifs, 0⟩] scope pos) spos) (tAsg (tLcX wi g tt te (own.map (·.2)) W) (gName i)) := by
  refine ⟨fun pins s σ H D I h => ?_⟩
  rw [exec_Assign_Name_used _ _ _ _ hsw]
  refine wpAny_bind (wpAny_standAt (wpAny_bind ?_))
  show wpAny _ X.A (do let _ ← comprehension (.ListComp elt [⟨tg, iter, ifs, 0⟩] scope pos) scope X.env (firstIterPos [⟨tg, iter, ifs, 0⟩] pos) (newList []) false (eval iter X.env) (some (assign (.Name y py) X.env))) _ _ s
  have h : tLcX wi g tt te (own.map (·.2)) W σ H (fun x H1 => gName i x σ H1 D.nx) := h
  refine wpAny_bind (thn (lc_coreX (Qf := fun _ s' => SP X pins D .next s') hc hN tk hs hf I hi ok hg ht he hsi h fun L ce s' m H' I' q hn f => ?_) fun _ s' hq => wpAny_pure (wpAny_pure hq))
  show wpAny _ _ (assign (.Name y py) X.env (.ref L)) _ _ _
  refine wpAny_assign_Name (store_ok2 (v := V.ref L) I' hN hy (.inl hyl) rfl (fun s2 I2 ⟨a, sb, ha⟩ => ?_) (.inr hyl))
  obtain ⟨f0, f1, f2, f3, f4, f5⟩ := f
  have haC : ce.locals ≠ a := by
    rcases ha with z | z
    · rw [z]; exact f1
    · exact fun e => f4 y a z e.symm
  refine ⟨m, hn.sameBut sb haC, fun h3 sb3 => ?_⟩
  exact ⟨_, H', I2.turned (t' := s2.toks) (fun b o hb e => (sb3.2 b hb).trans e) f0 f1 f3 f4 f5, q⟩
end
end Z

/-! ZY: list comprehensions that let exceptions out, the layer's part. -/
namespace Z
open PySem PySem.Spec PyProof PyProof.Rows L2
/-- n: how many stand in the list already -/
def lxS (turn : D → Sto → R (Option D)) : List D → Nat → Sto → R (List D)
  | [], _, S => .ok [] S
  | d :: ds, n, S => (turn d S).bind fun o S' => match o with
    | some y => if fits (n + 1) = true then (lxS turn ds (n + 1) S').bind fun ys S2 => .ok (y :: ys) S2 else .bad
    | none => lxS turn ds n S'
def lxI (turn : D → Sto → R (Option D)) (src : Src) : Nat → Nat → Nat → Sto → R (List D)
  | 0, _, _, _ => .bad
  | k + 1, i, n, S => match look src S with
    | none => .bad
    | some ds => (match ds[i]? with
      | none => .ok [] S
      | some d => (turn d S).bind fun o S' => match o with
        | some y => if fits (n + 1) = true then (lxI turn src k (i + 1) (n + 1) S').bind fun ys S2 => .ok (y :: ys) S2 else .bad
        | none => lxI turn src k (i + 1) n S')
theorem lxS_I {turn : D → Sto → R (Option D)} {ds : List D} : ∀ (k i n : Nat), ds.length < k + i → i ≤ ds.length → ∀ S, lxI turn (.st ds) k i n S = lxS turn (ds.drop i) n S
  | 0, i, n, h, hi, S => by omega
  | k + 1, i, n, h, hi, S => by
    unfold lxI
    show (match ds[i]? with | none => _ | some d => _) = _
    cases e : ds[i]? with
    | none =>
      have := List.getElem?_eq_none_iff.mp e
      rw [List.drop_of_length_le this]
      rfl
    | some d =>
      obtain ⟨hl, hd⟩ := List.getElem?_eq_some_iff.mp e
      rw [List.drop_eq_getElem_cons hl, hd]
      have ih := fun n => lxS_I (turn := turn) (ds := ds) k (i + 1) n (by omega) hl
      show _ = lxS turn (d :: ds.drop (i + 1)) n S
      unfold lxS
      dsimp only
      congr 1
      funext o S'
      cases o with
      | none => exact ih n S'
      | some y => dsimp only; rw [ih (n + 1) S']
def lxRun (turn : D → Sto → R (Option D)) (src : Src) (S : Sto) : R (List D) := match src with
  | .st ds => lxS turn ds 0 S
  | .lv f => (match f S with
    | some ds => lxI turn (.lv f) (ds.length + 1) 0 0 S
    | none => .bad)
theorem lxRun_I {turn : D → Sto → R (Option D)} {src : Src} {S : Sto} : ∃ k, lxRun turn src S = lxI turn src k 0 0 S := by
  cases src with
  | st ds => exact ⟨ds.length + 1, by rw [lxS_I _ 0 0 (by omega) (Nat.zero_le _)]; rfl⟩
  | lv f =>
    cases e : f S with
    | none => exact ⟨0, by show (match f S with | some ds => _ | none => _) = _; rw [e]; rfl⟩
    | some ds => exact ⟨ds.length + 1, by show (match f S with | some ds => _ | none => _) = _; rw [e]⟩
def eLx (vs : List Nat) (mi : EI) (g : Tg) (t : T) (e : E) : E := fun ρ S => (mi ρ S).bind fun src S => (lxRun (lcT g t e (wipeE ρ vs)) src S).bind fun ys S' => if fits ys.length = true then .ok (.lst ys) S' else .bad
/-! ### as the other, where nothing is raised -/
theorem fits_down {n m : Nat} (h : fits n = true) (l : m ≤ n) : fits m = true := fits_of (Nat.le_trans l (fits_le h))
theorem lxS_ok {turn : D → Sto → R (Option D)} : ∀ {ds : List D} {n : Nat} {S : Sto} {ys : List D} {S' : Sto}, lcS turn ds S = .ok ys S' → fits (n + ys.length) = true → lxS turn ds n S = .ok ys S'
  | [], n, S, ys, S', h, _ => h
  | d :: ds, n, S, ys, S', h, hf => by
    unfold lcS at h
    unfold lxS
    cases e : turn d S with
    | bad => rw [e] at h; cases h
    | ex x S1 => rw [e] at h; cases h
    | ok o S1 =>
      rw [e] at h
      cases o with
      | none => exact lxS_ok (ds := ds) h hf
      | some y =>
        dsimp only at h
        cases e2 : lcS turn ds S1 with
        | bad => rw [e2] at h; cases h
        | ex x S2 => rw [e2] at h; cases h
        | ok zs S2 =>
          rw [e2] at h
          cases h
          rw [List.length_cons] at hf
          show (if fits (n + 1) = true then (lxS turn ds (n + 1) S1).bind _ else _) = _
          rw [if_pos (fits_down hf (by omega)), lxS_ok e2 (fits_down hf (by omega))]
          rfl
theorem lxI_ok {turn : D → Sto → R (Option D)} {src : Src} : ∀ {k i n : Nat} {S : Sto} {ys : List D} {S' : Sto}, lcI turn src k i S = .ok ys S' → fits (n + ys.length) = true → lxI turn src k i n S = .ok ys S'
  | 0, i, n, S, ys, S', h, _ => h
  | k + 1, i, n, S, ys, S', h, hf => by
    unfold lcI at h
    unfold lxI
    cases e0 : look src S with
    | none => rw [e0] at h; cases h
    | some ds =>
      rw [e0] at h
      dsimp only at h ⊢
      cases e1 : ds[i]? with
      | none => rw [e1] at h; exact h
      | some d =>
        rw [e1] at h
        dsimp only at h ⊢
        cases e : turn d S with
        | bad => rw [e] at h; cases h
        | ex x S1 => rw [e] at h; cases h
        | ok o S1 =>
          rw [e] at h
          cases o with
          | none => exact lxI_ok (k := k) h hf
          | some y =>
            dsimp only at h
            cases e2 : lcI turn src k (i + 1) S1 with
            | bad => rw [e2] at h; cases h
            | ex x S2 => rw [e2] at h; cases h
            | ok zs S2 =>
              rw [e2] at h
              cases h
              rw [List.length_cons] at hf
              show (if fits (n + 1) = true then (lxI turn src k (i + 1) (n + 1) S1).bind _ else _) = _
              rw [if_pos (fits_down hf (by omega)), lxI_ok e2 (fits_down hf (by omega))]
              rfl
theorem eLx_ok {vs : List Nat} {mi : EI} {g : Tg} {t : T} {e : E} {ρ : Env} {S S' : Sto} {d : D} (h : eLc vs mi g t e ρ S = .ok d S') : eLx vs mi g t e ρ S = .ok d S' := by
  unfold eLc at h
  unfold eLx
  cases e0 : mi ρ S with
  | bad => rw [e0] at h; cases h
  | ex x S1 => rw [e0] at h; cases h
  | ok src S1 =>
    rw [e0] at h
    show (lxRun (lcT g t e (wipeE ρ vs)) src S1).bind _ = _
    have h : (match lcRun (lcT g t e (wipeE ρ vs)) src S1 with | .ok ys S' => if fits ys.length = true then R.ok (D.lst ys) S' else .bad | _ => .bad) = _ := h
    cases e1 : lcRun (lcT g t e (wipeE ρ vs)) src S1 with
    | bad => rw [e1] at h; cases h
    | ex x S1 => rw [e1] at h; cases h
    | ok ys S2 =>
      rw [e1] at h
      dsimp only at h
      have hf : fits (0 + ys.length) = true := by
        rw [Nat.zero_add]
        by_cases hf : fits ys.length = true
        · exact hf
        · rw [if_neg hf] at h; cases h
      have z : lxRun (lcT g t e (wipeE ρ vs)) src S1 = .ok ys S2 := by
        unfold lcRun at e1
        unfold lxRun
        cases src with
        | st ds => exact lxS_ok e1 hf
        | lv f =>
          dsimp only at e1 ⊢
          cases e3 : f S1 with
          | none => rw [e3] at e1; cases e1
          | some ds => rw [e3] at e1; exact lxI_ok e1 hf
      rw [z]
      exact h
/-! ### the rule -/
theorem XV.back {U : Wd} {G Gi : Gh} {S : Sto} {H1 Hi : Hp} {x : Ex} {cls : Value} {dd : Option Addr} (s : Step G H1 Gi Hi) (h : XV U Gi Hi x cls dd) : XV U (Gi.back G) Hi x cls dd := by
  obtain ⟨C, a, b, h⟩ := h
  refine ⟨C, a, b, h.imp id ?_⟩
  rintro ⟨d, fvs, e, hd, n, hk, q⟩
  exact ⟨d, fvs, e, hd, ⟨n.1, fun z => n.2 (s.hid d z)⟩, hk, q.kp (back_keep (Si := S) s)⟩
def LeftX (U : Wd) (G : Gh) (H1 : Hp) (Q : VK) (W : WX) (σ : L2.St) (r : R (List D)) (done : List D) : Prop := match r with
  | .ok ys S' => fits (done.length + ys.length) = true ∧ ∀ G' v H', Step G H1 G' H' → RelS U G' S' H' → DV U G' H' (.lst (done ++ ys)) v → Q v H'
  | .ex x S' => ∀ G' H' cls dd, Step G H1 G' H' → RelS U G' S' H' → XV U G' H' x cls dd → W cls dd σ H'
  | .bad => False
theorem lx_reads {tg : Expr} {U : Wd} {vs sl : List Nat} {mi : EI} {g : Tg} {t : T} {e : E} {W : WX} {σ : L2.St} {H : Hp} {Q : VK} (hsl : ∀ i ∈ sl, i ∈ vs) (h : tEv U (eLx vs mi g t e) W σ H Q) : tLcX (tIv tg U mi W) (tGv U tg sl g) (tTv U t) (tEv U e) vs W σ H Q := by
  obtain ⟨G, ρ, S, rs, re, h⟩ := h
  refine ⟨G, ρ, S, rs, re, Go.mono (Go.bind (rel := relI tg U) h) fun J H1 ⟨G1, src, S1, s1, rs1, ri, g1⟩ => ?_⟩
  have re1 := re.mono s1
  intro D hD
  have hleft : LeftX U G1 H1 Q W σ (lxRun (lcT g t e (wipeE ρ vs)) src S1) [] := by
    unfold LeftX
    cases er : lxRun (lcT g t e (wipeE ρ vs)) src S1 with
    | ok ys S' =>
      rw [er] at g1
      unfold R.bind at g1
      dsimp only at g1
      by_cases hf : fits ys.length = true
      · rw [if_pos hf] at g1
        exact ⟨by simpa using hf, g1⟩
      · rw [if_neg hf] at g1; exact g1.elim
    | ex x S' => rw [er] at g1; exact g1
    | bad => rw [er] at g1; exact g1.elim
  obtain ⟨k, ek⟩ := lxRun_I (turn := lcT g t e (wipeE ρ vs)) (src := src) (S := S1)
  rw [ek] at hleft
  refine ⟨fun i m H' => ∃ Gi Si acc dacc, Step G1 H1 Gi H' ∧ RelS U Gi Si H' ∧ Gi.hid D ∧ H' D = some (.lst acc) ∧ DVs U Gi H' dacc acc ∧ LeftX U G1 H1 Q W σ (lxI (lcT g t e (wipeE ρ vs)) src m i dacc.length Si) dacc,
    ⟨k, G1.hide D, S1, [], [], hide_step rs1 hD, hide_rel rs1 hD rfl, .inr rfl, upd_same, rfl, hleft⟩, ?_⟩
  intro i m H2 ⟨G2, S2, acc, dacc, s2, rs2, hh2, hD2, qa, hl⟩
  cases m with
  | zero => exact hl.elim
  | succ m =>
    unfold lxI at hl
    cases el : look src S2 with
    | none => rw [el] at hl; exact hl.elim
    | some ds =>
      rw [el] at hl
      dsimp only at hl
      obtain ⟨r1, r2⟩ := ri G2 H2 S2 ds s2 rs2 el i
      cases ed : ds[i]? with
      | none =>
        rw [ed] at hl
        refine .inl ⟨r2 ed, ?_⟩
        have hl : fits (dacc.length + 0) = true ∧ ∀ G' v H', Step G1 H1 G' H' → RelS U G' S2 H' → DV U G' H' (.lst (dacc ++ [])) v → Q v H' := hl
        rw [List.append_nil] at hl
        exact hl.2 _ _ _ (back_step s2) (back_rel s2 rs2) (back_lst rs1 hD s2 rs2 hh2 hD2 qa)
      | some d =>
        rw [ed] at hl
        dsimp only at hl
        obtain ⟨go, yl⟩ := r1 d ed
        refine .inr ⟨go, fun H' => ∃ m', m' < m + 1 ∧ ∃ Gi Si acc dacc, Step G1 H1 Gi H' ∧ RelS U Gi Si H' ∧ Gi.hid D ∧ H' D = some (.lst acc) ∧ DVs U Gi H' dacc acc ∧ LeftX U G1 H1 Q W σ (lxI (lcT g t e (wipeE ρ vs)) src m' (i + 1) dacc.length Si) dacc, fun H' h => h, fun x H3 hy => ?_⟩
        obtain ⟨G3, s3, rs3, dv⟩ := yl x H3 hy
        have s13 := s2.trans s3
        refine ⟨G3, wipeE ρ vs, S2, d, rs3, (re1.mono s13).wipe vs, dv, ?_⟩
        have hh3 := s3.hid D hh2
        have hD3 := s3.keep D _ hD2 (.inr hh2)
        have qa3 := qa.mono s3
        unfold lcT at hl
        cases eg : g d (wipeE ρ vs) S2 with
        | none => rw [eg] at hl; exact hl.elim
        | some ρ3 =>
          rw [eg] at hl
          dsimp only at hl
          intro σ4 re4 df
          refine ⟨(wipe_diff df hsl).trans wipe_wipe, G3, ρ3, S2, rs3, re4, ?_⟩
          cases et : t ρ3 S2 with
          | bad => rw [et] at hl; exact hl.elim
          | ex x S' =>
            rw [et] at hl
            have hl : ∀ G' H' cls dd, Step G1 H1 G' H' → RelS U G' S' H' → XV U G' H' x cls dd → W cls dd σ H' := hl
            exact fun G' H' cls dd s r xv => hl _ _ _ _ (back_step (s13.trans s)) (back_rel (s13.trans s) r) (XV.back (S := S') (s13.trans s) xv)
          | ok b S4 =>
            rw [et] at hl
            intro G4 b' H4 s4 rs4 eb
            have eb : b = b' := eb
            subst eb
            have s14 := s13.trans s4
            have hh4 := s4.hid D hh3
            have hD4 := s4.keep D _ hD3 (.inr hh3)
            have qa4 := qa3.mono s4
            by_cases hb : b = true
            · rw [if_pos hb]
              have hl : LeftX U G1 H1 Q W σ ((e ρ3 S4).bind fun y S' => if fits (dacc.length + 1) = true then (lxI (lcT g t e (wipeE ρ vs)) src m (i + 1) (dacc.length + 1) S').bind fun ys S2 => .ok (y :: ys) S2 else .bad) dacc := by
                have hl' := hl
                unfold R.bind at hl'
                dsimp only at hl'
                rw [if_pos hb] at hl'
                cases ee : e ρ3 S4 with
                | bad => rw [ee] at hl'; exact hl'
                | ex x S' => rw [ee] at hl'; exact hl'
                | ok y S5 => rw [ee] at hl'; exact hl'
              refine ⟨G4, ρ3, S4, rs4, re4.mono s4, ?_⟩
              cases ee : e ρ3 S4 with
              | bad => rw [ee] at hl; exact hl.elim
              | ex x S' =>
                rw [ee] at hl
                have hl : ∀ G' H' cls dd, Step G1 H1 G' H' → RelS U G' S' H' → XV U G' H' x cls dd → W cls dd σ H' := hl
                exact fun G' H' cls dd s r xv => hl _ _ _ _ (back_step (s14.trans s)) (back_rel (s14.trans s) r) (XV.back (S := S') (s14.trans s) xv)
              | ok y S5 =>
                rw [ee] at hl
                intro G5 v H5 s5 rs5 dy
                have s15 := s14.trans s5
                have hh5 := s5.hid D hh4
                have hD5 := s5.keep D _ hD4 (.inr hh4)
                have qa5 := qa4.mono s5
                have hl : LeftX U G1 H1 Q W σ (if fits (dacc.length + 1) = true then (lxI (lcT g t e (wipeE ρ vs)) src m (i + 1) (dacc.length + 1) S5).bind fun ys S2 => .ok (y :: ys) S2 else .bad) dacc := hl
                by_cases hfit : fits (dacc.length + 1) = true
                · rw [if_pos hfit] at hl
                  have hlt : acc.length < sizeLine := by
                    have := fits_le hfit
                    rw [qa5.length]
                    omega
                  have el : (dacc ++ [y]).length = dacc.length + 1 := by rw [List.length_append, List.length_singleton]
                  refine ⟨acc, hD5, hlt, m, Nat.lt_succ_self m, G5, S5, acc ++ [v], dacc ++ [y], step_free s15 hD, hid_rel rs5 hh5 rfl, hh5, upd_same, (qa5.append (show DVs U G5 H5 [y] [v] from ⟨v, [], rfl, dy, rfl⟩)).kp (hid_keep hh5), ?_⟩
                  rw [el]
                  cases er : lxI (lcT g t e (wipeE ρ vs)) src m (i + 1) (dacc.length + 1) S5 with
                  | bad => rw [er] at hl; exact hl
                  | ex x S' => rw [er] at hl; exact hl
                  | ok ys S6 =>
                    rw [er] at hl
                    have hl : fits (dacc.length + (y :: ys).length) = true ∧ ∀ G' v H', Step G1 H1 G' H' → RelS U G' S6 H' → DV U G' H' (.lst (dacc ++ y :: ys)) v → Q v H' := hl
                    refine ⟨?_, ?_⟩
                    · have := hl.1
                      rw [List.length_cons] at this
                      rw [List.length_append, List.length_singleton]
                      rw [show dacc.length + 1 + ys.length = dacc.length + (ys.length + 1) from by omega]
                      exact this
                    · rw [List.append_assoc]; exact hl.2
                · rw [if_neg hfit] at hl; exact hl.elim
            · rw [if_neg hb]
              have hl : LeftX U G1 H1 Q W σ (lxI (lcT g t e (wipeE ρ vs)) src m (i + 1) dacc.length S4) dacc := by
                have hl' := hl
                unfold R.bind at hl'
                dsimp only at hl'
                rw [if_neg hb] at hl'
                exact hl'
              exact ⟨m, Nat.lt_succ_self m, G4, S4, acc, dacc, s14, rs4, hh4, hD4, qa4, hl⟩
abbrev cxX (X : Cx) (scope : Scope) (s : Shared) (H : Hp) (C : Addr) (cl : List (Str × Addr)) (fp : List Addr) (xe : Value → Shared → Prop) : Cx := blkX X s H scope (compEnvC scope cl C X.env) fp xe
section
variable {X : Cx} {pos : Pos}
theorem ce_lx {elt tg iter : Expr} {ifs : List Expr} {scope : Scope} (own : List (Str × Nat)) {sl : List Nat} {mi : EI} {g : Tg} {t : T} {e : E} (hst : X.stack = X.env :: X.outer) (hf : X.env.frame = some X.env.locals) (hc : X.calm = true) (hN : X.N.Nodup) (hi : CI X tg iter mi) (ok : BlkOk X.N X.env.scope scope own) (hsl : ∀ i ∈ sl, i ∈ own.map (·.2))
    (hg : ∀ s H C cl fp xe, CG (cxX X scope s H C cl fp xe) tg sl g) (ht : ∀ s H C cl fp xe, CTs (cxX X scope s H C cl fp xe) ifs t) (he : ∀ s H C cl fp xe, CE (cxX X scope s H C cl fp xe) elt e) (hs : ∀ x, foldedSetIterable iter X.env x = pure x := by intro _; rfl) :
    CE X (.ListComp elt [⟨tg, iter, ifs, 0⟩] scope pos) (eLx (own.map (·.2)) mi g t e) := fun W tk =>
  PE.imp (pe_lcX (g := tGv (wd X) tg sl g) (tt := fun W => tTv (wd X) t W) (te := fun W => tEv (wd X) e W) hc hN tk hst hf (hi W tk) ok (fun s H C cl fp xe => hg s H C cl fp xe) (fun s H C cl fp xe W' tk' => ht s H C cl fp xe W' tk') (fun s H C cl fp xe W' tk' => he s H C cl fp xe W' tk') hs) fun σ H Q h => lx_reads hsl h
theorem cs_setLx (i : Nat) {y : Str} {py : Pos} {elt tg iter : Expr} {ifs : List Expr} {scope : Scope} {spos : Pos} (own : List (Str × Nat)) {sl : List Nat} {mi : EI} {g : Tg} {t : T} {e : E} (hst : X.stack = X.env :: X.outer) (hf : X.env.frame = some X.env.locals) (hc : X.calm = true) (hN : X.N.Nodup) (hi : CI X tg iter mi) (ok : BlkOk X.N X.env.scope scope own) (hsl : ∀ i ∈ sl, i ∈ own.map (·.2))
    (hg : ∀ s H C cl fp xe, CG (cxX X scope s H C cl fp xe) tg sl g) (ht : ∀ s H C cl fp xe, CTs (cxX X scope s H C cl fp xe) ifs t) (he : ∀ s H C cl fp xe, CE (cxX X scope s H C cl fp xe) elt e) (hsw : swapsWith (.ListComp elt [⟨tg, iter, ifs, 0⟩] scope pos) (some (.Name y py)) spos.line X.env = pure true := by rfl) (hy : X.N[i]? = some y := by rfl) (hyl : X.env.scope.names.lookup y = some .local := by rfl) (hs : ∀ x, foldedSetIterable iter X.env x = pure x := by intro _; rfl) :
    CS X (.Assign [.Name y py] (.ListComp elt [⟨tg, iter, ifs, 0⟩] scope pos) spos) (sSet i (eLx (own.map (·.2)) mi g t e)) := fun W tk =>
  PS.imp (ps_setLcX (g := tGv (wd X) tg sl g) (tt := fun W => tTv (wd X) t W) (te := fun W => tEv (wd X) e W) hc hN tk hst hf hy hyl hsw (hi W tk) ok (fun s H C cl fp xe => hg s H C cl fp xe) (fun s H C cl fp xe W' tk' => ht s H C cl fp xe W' tk') (fun s H C cl fp xe W' tk' => he s H C cl fp xe W' tk') hs) fun D σ H ⟨G, ρ, S, rs, re, h⟩ => by
    obtain ⟨G0, ρ0, S0, a, b, c⟩ := tEv.toS rs re h
    exact lx_reads hsl ⟨G0, ρ0, S0, a, b, Go.mono c fun v H1 ⟨G1, d, S1, s, rs1, re1, dv, g⟩ => GoS.nx_ g rs1 (re1.set i dv)⟩
theorem Std.blkX {k : Nat} (st : Std X k) {scope : Scope} {s : Shared} {H : Hp} {C : Addr} {cl : List (Str × Addr)} {fp : List Addr} {xe : Value → Shared → Prop} : Std (cxX X scope s H C cl fp xe) k := ⟨st.hr, st.hc, st.hN, st.hg⟩
end
end Z

/-! ZD: dict(pairs). -/
namespace Z
open PySem PySem.Spec PyProof PyProof.Rows L2
section
variable {X : Cx}
/-- a tuple without a dict, in the heap -/
theorem plain_seq {pins : List (Addr × Obj)} {σ : L2.St} {H : Hp} {s : Shared} {a : Addr} {vs : List V} (I : Inv X pins σ H s) (h : PTup H a vs ∨ KTup X.K a vs) : ∃ its : List Value, Vals vs its ∧ PlainSeq "tuple" s.heap a its.toArray ∧ vs.length ≤ sizeLine := by
  rcases h with ⟨o, h, hd⟩ | ⟨o, its, n, h1, h2, h3, h4, h5, h6⟩
  · obtain ⟨e, z, its, r, o', e2, hc, n, hdat⟩ := I.hok a _ h
    rw [e] at e2; cases e2
    exact ⟨its, r, ⟨o, n, e, hc, hd, hdat⟩, z⟩
  · have l := h5.length
    refine ⟨its.toList, h5, ⟨o, n, I.kIn a o h1, h2, h6, by rw [Array.toArray_toList]; exact h3⟩, ?_⟩
    rw [l, Array.length_toList]
    exact h4
theorem pairs_two {pins : List (Addr × Obj)} {σ : L2.St} {H : Hp} {s : Shared} (I : Inv X pins σ H s) : ∀ {ps : List Addr} {kvs : List (Key × V)}, Paired (fun p kv => SqT X.K H p [kV kv.1, kv.2]) ps kvs →
    ∃ (us : List (Value × Value)) (prs : List (Key × Value)), KV kvs prs ∧ us.length = ps.length ∧ prs.length = ps.length ∧ ∀ (j : Nat) (k v : Value), us[j]? = some (k, v) → (∃ b, ps[j]? = some b ∧ s.heap.IsTuple b #[k, v]) ∧ ∃ kk, prs[j]? = some (kk, v) ∧ (mixKind X.prog X.w).is kk k = true
  | _, _, .nil => ⟨[], [], .nil, rfl, rfl, fun j k v e => by simp at e⟩
  | _, _, .cons (a := p) (b := kv) h t => by
    obtain ⟨us, prs, r, hl, hl2, hp⟩ := pairs_two I t
    obtain ⟨its, rv, ht, _⟩ := I.tuple h
    obtain ⟨u, y, ei, ru, ry⟩ := vals2 rv
    subst ei
    refine ⟨(u, y) :: us, (kv.1, y) :: prs, .cons ⟨rfl, ry⟩ r, by simp [hl], by simp [hl2], fun j k v e => ?_⟩
    cases j with
    | zero =>
      have e' : (u, y) = (k, v) := Option.some.inj e
      cases e'
      exact ⟨⟨p, rfl, ht⟩, kv.1, rfl, kV_is (P := X.prog) (w := X.w) ru⟩
    | succ j =>
      obtain ⟨⟨b, e1, e2⟩, kk, e3, e4⟩ := hp j k v (by simpa using e)
      exact ⟨⟨b, by simpa using e1, e2⟩, kk, by simpa using e3, e4⟩
/-- dict(t) of a tuple of pairs -/
theorem call_dictT (hcalm : X.calm = true) : CallR X (.type "dict") (fun xs H Q => ∃ (a : Addr) (ps : List Addr) (kvs : List (Key × V)), xs = [.ref a] ∧ (PTup H a (ps.map V.ref) ∨ KTup X.K a (ps.map V.ref)) ∧ Paired (fun p kv => SqT X.K H p [kV kv.1, kv.2]) ps kvs ∧
    ∀ p, H p = none → Q (.ref p) (upd H p (.dK (mergeK [] kvs)))) := by
  intro pins s σ H xs us Q I r q
  obtain ⟨a, ps, kvs, ex, hq, hp, q⟩ := q
  subst ex
  obtain ⟨u, eu, rx⟩ := vals1 r
  subst eu
  cases rx
  obtain ⟨its, rv, pl, hz⟩ := plain_seq I hq
  have ei := refs_at rv
  subst ei
  rw [List.length_map] at hz
  obtain ⟨uvs, prs, rel, hl, hl2, hpr⟩ := pairs_two I hp
  have P := PairArg.tuple (prog := X.prog) (w := X.w) a (ps.map Value.ref).toArray (fun j => ps[j]?.getD 0) uvs
  have ok : PlainSeq "tuple" s.heap a (ps.map Value.ref).toArray ∧ PairItems s.heap (ps.map Value.ref).toArray (fun j => ps[j]?.getD 0) uvs := by
    refine ⟨pl, by simp [hl], fun j k v e => ?_⟩
    obtain ⟨⟨b, e1, e2⟩, _⟩ := hpr j k v e
    exact ⟨by simp [e1], by simp only [e1, Option.getD_some]; exact .inl e2⟩
  refine PySem.call_dict_pairs (knd := mixKind X.prog X.w) (kvs := prs) P (I.ok.hd hcalm) ok ⟨by rw [hl2, hl], fun i k v e => (hpr i k v e).2⟩ (by rw [hl]; exact hz) fun h' tk hd' k => ?_
  have hm : (s.heap.objs.size == sysModules) = false := beq_eq_false_iff_ne.mpr (Nat.ne_of_gt I.big)
  have hlen : (mergeK [] kvs).length ≤ sizeLine := by
    refine Nat.le_trans (length_mergeK kvs []) ?_
    rw [List.length_nil, Nat.zero_add, rel.length, hl2]
    exact hz
  exact ⟨.ref s.heap.objs.size, upd H s.heap.objs.size (.dK (mergeK [] kvs)), I.laid (t' := tk) (fun b o e => k b o (by simp) e) (Nat.le_refl _) (show ObjOk X.prog X.w _ _ _ (.dK (mergeK [] kvs)) from ⟨hlen, hm, merged [] prs, KV.merge rel .nil, hd'⟩), rfl, q _ (I.hok.fresh (Nat.le_refl _))⟩
end
def dctOf : List D → List D × List D → Option (List D × List D)
  | [], a => some a
  | .tup [k, z] :: ds, a => (match keyOf k with
    | some _ => dctOf ds (dput a.1 a.2 k z)
    | none => none)
  | _ :: _, _ => none
theorem dctOf_ok {U : Wd} {G : Gh} {H : Hp} : ∀ {es : List D} {vs : List V} {a a' : List D × List D} {kvs0 : List (Key × V)}, dctOf es a = some a' → DVs U G H es vs → a.1.map keyOf = kvs0.map (fun p => some p.1) → DVs U G H a.2 (kvs0.map (·.2)) →
    ∃ (ps : List Addr) (kvs : List (Key × V)), vs = ps.map V.ref ∧ Paired (fun p kv => SqT U.K H p [kV kv.1, kv.2]) ps kvs ∧ a'.1.map keyOf = (mergeK kvs0 kvs).map (fun p => some p.1) ∧ DVs U G H a'.2 ((mergeK kvs0 kvs).map (·.2))
  | [], vs, a, a', kvs0, h, q, h1, h2 => by
    cases h
    cases (show vs = [] from q)
    exact ⟨[], [], rfl, .nil, h1, h2⟩
  | e :: es, vs, a, a', kvs0, h, q, h1, h2 => by
    unfold dctOf at h
    split at h
    · rename_i heq; cases heq
    · rename_i k z ds a0 heq
      cases heq
      split at h
      · rename_i kk hk
        obtain ⟨v, r, rfl, qv, qr⟩ := q
        obtain ⟨p, ws, rfl, t, q2⟩ := qv
        obtain ⟨y, r2, rfl, qy, qz⟩ := q2
        obtain ⟨w, r3, rfl, qw, e3⟩ := qz
        cases (show r3 = [] from e3)
        obtain ⟨p1, p2⟩ := dput_ok hk qw h1 h2
        obtain ⟨ps, kvs, e1, pr, o1, o2⟩ := dctOf_ok h qr p1 p2
        have ey := keyOf_V hk qy
        refine ⟨p :: ps, (kk, w) :: kvs, by rw [e1]; rfl, .cons (by rw [← ey]; exact t.sq) pr, o1, o2⟩
      · cases h
    · cases h
def oDict : Fn := fun ds S => match ds with
  | [d] => (match rd S d with
    | .tup es => (match dctOf es ([], []) with
      | some a => .ok (.dct a.1 a.2) S
      | none => .bad)
    | .lst es => (match dctOf es ([], []) with
      | some a => .ok (.dct a.1 a.2) S
      | none => .bad)
    | _ => .bad)
  | _ => .bad
section
variable {X : Cx}
theorem cb_dict (hcalm : X.calm = true) : CB X (.type "dict") oDict := fun W σ => CallR.imp (CallR.or (call_dictT hcalm) (call_dictP hcalm)) fun xs H Q ⟨G, S, ds, rs, q, g⟩ => by
  unfold oDict at g
  split at g
  · obtain ⟨v, rfl, dv⟩ := one_of q
    split at g
    · rename_i es e
      have e2 := rd_tup_id e
      split at g
      · rename_i a ea
        rw [e2] at dv
        obtain ⟨p, vs, rfl, t, q⟩ := dv
        obtain ⟨ps, kvs, rfl, pr, o1, o2⟩ := dctOf_ok (kvs0 := []) ea q rfl rfl
        refine .inl ⟨p, ps, kvs, rfl, t.imp (fun t => t.1) id, pr, fun l hl => Go.new g rs hl ?_⟩
        exact ⟨l, _, rfl, ⟨upd_same, rs.ns hl⟩, o1, o2.mono (step_new rs hl)⟩
      · exact g.elim
    · rename_i es e
      split at g
      · rename_i a ea
        obtain ⟨p, vs, rfl, t, q⟩ := rd_lst rs e dv
        obtain ⟨ps, kvs, rfl, pr, o1, o2⟩ := dctOf_ok (kvs0 := []) ea q rfl rfl
        refine .inr ⟨p, ps, kvs, rfl, t, pr, fun l hl => Go.new g rs hl ?_⟩
        exact ⟨l, _, rfl, ⟨upd_same, rs.ns hl⟩, o1, o2.mono (step_new rs hl)⟩
      · exact g.elim
    · exact g.elim
  · exact g.elim
end
/-- a list of so many -/
def gTL (n : Nat) (gs : Tgs) : Tg := fun d ρ S => match rd S d with
  | .lst ds => if ds.length = n then gs ds ρ S else none
  | _ => none
theorem cg_tupL {X : Cx} {pos : Pos} {es : List Expr} {k : Nat} {gs : Tgs} {n : Nat} {sl : List Nat} (hc : X.calm = true) (h : CGs X es sl gs) (hn : (assignEach es X.env).length = n := by rfl) (hst : (assignEach es X.env).findIdx? (·.1) = none := by rfl) : CG X (.Tuple es k pos) sl (gTL n gs) :=
  PG.imp (pg_lst hc h hn hst) fun v σ H Q ⟨G, ρ, S, d, rs, re, dv, h⟩ => by
    unfold gTL at h
    split at h
    · rename_i ds e
      have dv : DVw (wd X) G H d v := dv
      rcases dv with dv | ⟨ds2, a, vs, rfl, rfl, t, q⟩
      · obtain ⟨a, vs, ev, sq, q⟩ := rd_lst rs e dv
        by_cases hl : ds.length = n
        · rw [if_pos hl] at h
          exact ⟨a, vs, ev, sq, by rw [q.length]; exact hl, G, ρ, S, ds, rs, re, q, h⟩
        · rw [if_neg hl] at h; exact h.elim
      · cases (show D.tup ds2 = .lst ds from e)
    · exact h.elim
end Z

/-! ZV: small values. -/
namespace Z
open PySem PySem.Spec PyProof PyProof.Rows L2
def vl (k : Nat) (d : D) : Bool := nrf d && shp k d
theorem vl_mk {k : Nat} {d : D} (a : nrf d = true) (b : shp k d = true) : vl k d = true := by unfold vl; rw [a, b]; rfl
theorem vl_1 {k : Nat} {d : D} (h : vl k d = true) : nrf d = true := (Bool.and_eq_true_iff.mp h).1
theorem vl_2 {k : Nat} {d : D} (h : vl k d = true) : shp k d = true := (Bool.and_eq_true_iff.mp h).2
theorem vl_up {k n : Nat} {d : D} (h : vl k d = true) (l : k ≤ n) : vl n d = true := vl_mk (vl_1 h) (shp_mono d l (vl_2 h))
theorem vl_val {d : D} (h : vl 10 d = true) : val d = true := vl_up (n := 50) h (by decide)
theorem nrfs_of : ∀ {ds : List D}, (∀ d ∈ ds, nrf d = true) → nrfs ds = true
  | [], _ => rfl
  | d :: ds, h => by rw [nrfs, h d List.mem_cons_self, nrfs_of fun e he => h e (List.mem_cons_of_mem _ he)]; rfl
theorem shps_of {k : Nat} : ∀ {ds : List D}, (∀ d ∈ ds, shp k d = true) → shps (k + 1) ds = true
  | [], _ => by simp [shps]
  | d :: ds, h => by rw [shps, h d List.mem_cons_self, shps_of fun e he => h e (List.mem_cons_of_mem _ he)]; rfl
theorem vl_tup {k : Nat} {ds : List D} (h : ∀ d ∈ ds, vl k d = true) : vl (k + 1) (.tup ds) = true := vl_mk (by rw [nrf]; exact nrfs_of fun d hd => vl_1 (h d hd)) (by rw [shp]; exact shps_of fun d hd => vl_2 (h d hd))
theorem vl_lst {k : Nat} {ds : List D} (h : ∀ d ∈ ds, vl k d = true) : vl (k + 1) (.lst ds) = true := vl_mk (by rw [nrf]; exact nrfs_of fun d hd => vl_1 (h d hd)) (by rw [shp]; exact shps_of fun d hd => vl_2 (h d hd))
theorem mem_cut {α : Type} {l : List α} {a b : Option Int} {x : α} (h : x ∈ cut l a b) : x ∈ l := List.mem_of_mem_drop (List.mem_of_mem_take h)
theorem wts_le {k : Nat} : ∀ {ds : List D}, (∀ d ∈ ds, wt d ≤ k) → wts ds ≤ ds.length * (k + 2)
  | [], _ => by simp [wts]
  | d :: ds, h => by
    have a := h d List.mem_cons_self
    have b := wts_le (k := k) (ds := ds) fun t ht => h t (List.mem_cons_of_mem _ ht)
    rw [wts, List.length_cons, Nat.add_mul]
    omega
mutual
theorem beqD_refl : ∀ (d : D) (n : Nat), shp n d = true → beqD d d = true
  | .non, _, _ => rfl
  | .bl b, _, _ => by simp [beqD]
  | .int i, _, _ => by simp [beqD]
  | .str s, _, _ => by simp [beqD]
  | .tup ds, n, h => by rw [beqD]; exact beqDs_refl ds n (by simpa [shp] using h)
  | .lst ds, n, h => by rw [beqD]; exact beqDs_refl ds n (by simpa [shp] using h)
  | .dct _ _, n, h => by simp [shp] at h
  | .dcn _ _, n, h => by simp [shp] at h
  | .ref _, n, h => by simp [shp] at h
  | .arg _, n, h => by simp [shp] at h
theorem beqDs_refl : ∀ (ds : List D) (n : Nat), shps n ds = true → beqDs ds ds = true
  | [], _, _ => rfl
  | d :: ds, 0, h => by simp [shps] at h
  | d :: ds, n + 1, h => by
    have h : (shp n d && shps (n + 1) ds) = true := by simpa [shps] using h
    obtain ⟨h1, h2⟩ := Bool.and_eq_true_iff.mp h
    rw [beqDs, beqD_refl d n h1, beqDs_refl ds (n + 1) h2]; rfl
end
theorem alike_same {d : D} {S : Sto} (h1 : nrf d = true) (h2 : shp 60 d = true) (h3 : wt d ≤ 16777216) : alike [d, d] S = .ok (.bl true) S := by
  have ho : okW d = true := by unfold okW; rw [h2, Bool.true_and]; exact Nat.ble_eq_true_of_le h3
  show (if okW (rd S d) = true ∧ okW (rd S d) = true then _ else _) = _
  rw [rd_val h1, if_pos ⟨ho, ho⟩, if_pos (beqD_refl d 60 h2)]
theorem alike_bl {b : Bool} {S : Sto} : alike [.bl b, .bl b] S = .ok (.bl true) S := alike_same rfl rfl (by cases b <;> decide)
theorem cut_len {α : Type} (l : List α) (a b : Option Int) : (cut l a b).length ≤ l.length := by
  unfold cut
  refine Nat.le_trans (List.length_take_le' _ _) ?_
  rw [List.length_drop]; omega
theorem st_forE {mi : EI} {g : Tg} {body : C} {ρ : Z.Env} {S S1 : Sto} {ds : List D} {r : RS} (h : mi ρ S = .ok (.st ds) S1) (k : forS (turnS g body) ds ρ S1 = r) : sFor mi g body ρ S = r := by
  unfold sFor
  rw [h]
  exact k
theorem ne_ref {S : Sto} {k : Nat} {l : List D} (e : S.get k = some (.lst l)) (h : shp 60 (.lst l) = true) : oNe (.ref k) (.lst l) S = .ok (.bl false) S := by
  show (if shp 60 (rd S (.ref k)) = true ∧ shp 60 (.lst l) = true then R.ok (D.bl (!eqv (rd S (.ref k)) (.lst l))) S else .bad) = _
  have : rd S (.ref k) = .lst l := by unfold rd; dsimp only; rw [e]
  rw [this, if_pos ⟨h, h⟩, eqv_refl _ 60 h]
  rfl
/-- small: a depth, a weight -/
def Sm (k w : Nat) (d : D) : Prop := vl k d = true ∧ wt d ≤ w
theorem Sm.up {k w k' w' : Nat} {d : D} (h : Sm k w d) (hk : k ≤ k') (hw : w ≤ w') : Sm k' w' d := ⟨vl_up h.1 hk, Nat.le_trans h.2 hw⟩
theorem Sm.tup {k w L : Nat} {ds : List D} (h : ∀ d ∈ ds, Sm k w d) (hl : ds.length ≤ L) : Sm (k + 1) (L * (w + 2) + 5) (.tup ds) := by
  refine ⟨vl_tup fun d hd => (h d hd).1, ?_⟩
  have := wts_le (k := w) (ds := ds) fun d hd => (h d hd).2
  have : wts ds ≤ L * (w + 2) := Nat.le_trans this (Nat.mul_le_mul_right _ hl)
  rw [wt]
  omega
theorem Sm.lst {k w L : Nat} {ds : List D} (h : ∀ d ∈ ds, Sm k w d) (hl : ds.length ≤ L) : Sm (k + 1) (L * (w + 2) + 5) (.lst ds) := by
  refine ⟨vl_lst fun d hd => (h d hd).1, ?_⟩
  have := wts_le (k := w) (ds := ds) fun d hd => (h d hd).2
  have : wts ds ≤ L * (w + 2) := Nat.le_trans this (Nat.mul_le_mul_right _ hl)
  rw [wt]
  omega
theorem Sm.nat {c : Nat} (h : c < 1000) : Sm 1 19 (nD c) := by
  refine ⟨by simp [vl, nD, nrf, shp], ?_⟩
  show (if (c : Int).natAbs < 1000000000000000000 then 19 else 20000000) ≤ 19
  rw [if_pos (by omega)]
  exact Nat.le_refl _
theorem Sm.bl {b : Bool} : Sm 1 5 (.bl b) := ⟨by simp [vl, nrf, shp], Nat.le_refl _⟩
theorem Sm.non : Sm 1 4 .non := ⟨rfl, Nat.le_refl _⟩
theorem Sm.str {s : List Nat} {n : Nat} (h : s.length ≤ n) (h2 : ∀ x ∈ s, x < 1114112) : Sm 1 (10 * n + 2) (.str s) := ⟨by simp [vl, nrf, shp]; exact h2, by rw [wt]; omega⟩
theorem Sm.cells {l : List Nat} {n : Nat} (h : ∀ c ∈ l, c < 1000) (hl : l.length ≤ n) : Sm 2 (n * 21 + 5) (cellsD l) := Sm.tup (fun d hd => by
  obtain ⟨c, hc, rfl⟩ := List.mem_map.mp hd
  exact Sm.nat (h c hc)) (by rw [List.length_map]; exact hl)
theorem Sm.cp {p : Nat × Nat} (h1 : p.1 < 1000) (h2 : p.2 < 1000) : Sm 2 47 (cpD p) := by
  refine Sm.tup (L := 2) (w := 19) (fun d hd => ?_) (Nat.le_refl _)
  simp only [List.mem_cons, List.not_mem_nil, or_false] at hd
  rcases hd with rfl | rfl
  · exact Sm.nat h1
  · exact Sm.nat h2
theorem Sm.alike {k w : Nat} {d : D} {S : Sto} (h : Sm k w d) (hk : k ≤ 60) (hw : w ≤ 16777216) : Z.alike [d, d] S = .ok (.bl true) S := alike_same (vl_1 h.1) (shp_mono _ hk (vl_2 h.1)) (Nat.le_trans h.2 hw)
theorem fnA_ex {F : Fn} {ds : List D} {S S1 : Sto} {c : PySem.Str} (h : nrfs ds = true) (e : F ds Sto.nil = .ex ⟨c, []⟩ S1) : fnA F ds S = .ex ⟨c, []⟩ S := by
  unfold fnA
  rw [if_pos h, e]
  rfl
theorem fn_ex {n N : Nat} {body : C} {ds : List D} {S S' : Sto} {ρ : Env} {x : Ex} (h : body (env0 n N ds) S = .ex x ρ S') : fnS n N body ds S = .ex x S' := by unfold fnS; rw [h]
theorem sq_ex {a b : C} {ρ ρ' : Env} {S S' : Sto} {x : Ex} (h : a ρ S = .ex x ρ' S') : sSeq a b ρ S = .ex x ρ' S' := by unfold sSeq; rw [h]
theorem heard_ex {m : E} {ρ : Env} {S S' : Sto} {q : PySem.Str} {told nothing : List Nat} (h0 : S.get 0 = some (.tbl q)) (h : m ρ S = .ex ⟨"Nothing", []⟩ S') : eHeard q told nothing [("Nothing", true)] m ρ S = .ok (.tup [.str nothing]) S' := by
  unfold eHeard
  rw [h0]
  dsimp only
  rw [if_pos rfl, h]
  rfl
/-! sorted numbers -/
theorem alike_int (a b : Int) : PySem.W.alike (toPy (.int a)) (toPy (.int b)) = true := rfl
theorem sortOk_nat {l : List Nat} (h : l.length ≤ 16777216) : sortOk (l.map nD) = true := by
  unfold sortOk
  rw [show shps 40 (l.map nD) = true from shps_nat 39 l, fits_of (by rw [List.length_map]; exact h)]
  have a1 : alikeD (l.map nD) = true := by
    unfold alikeD
    rw [List.all_eq_true]
    intro x hx
    rw [List.all_eq_true]
    intro y hy
    obtain ⟨c, _, rfl⟩ := List.mem_map.mp hx
    obtain ⟨d, _, rfl⟩ := List.mem_map.mp hy
    exact alike_int _ _
  have a2 : atomsD (l.map nD) = true := by
    unfold atomsD
    rw [List.all_eq_true]
    intro x hx
    obtain ⟨c, _, rfl⟩ := List.mem_map.mp hx
    rfl
  rw [a1, a2, Bool.or_true]
  rfl
theorem srtE_perm (es : List D) : (srtE es).Perm es := by
  rw [srtE_eq]
  exact List.mergeSort_perm es leD
theorem sorted_nat {l : List Nat} (h : l.length ≤ 16777216) (S : Sto) : oSorted [.lst (l.map nD)] S = .ok (.lst (srtE (l.map nD))) S := by
  show (if sortOk (l.map nD) = true then R.ok (D.lst (srtE (l.map nD))) S else .bad) = _
  rw [if_pos (sortOk_nat h)]
theorem srtE_nat {l : List Nat} {d : D} (h : d ∈ srtE (l.map nD)) : ∃ c ∈ l, d = nD c := by
  obtain ⟨c, hc, e⟩ := List.mem_map.mp ((srtE_perm _).mem_iff.mp h)
  exact ⟨c, hc, e.symm⟩
theorem srtE_len (l : List Nat) : (srtE (l.map nD)).length = l.length := by rw [(srtE_perm _).length_eq, List.length_map]
end Z

namespace Zk16
open PySem PySem.Spec PyProof PyProof.Rows L2 Z
def lamQ : PySem.Str := ("law" : PySem.Str) ++ ".<locals>." ++ "<lambda>"
def m_law_bag : C := (sRet (eBag (aCons (eC (.int 0)) (aCons (eC (.int 1234567891)) (aCons (eC (.int 0)) (aCons (eLc [1] (iSrc (eSl (eVar 0) pNone (pSome (eC (.int 63))))) (gN 1) tYs (eB oAbs (aCons (eVar 1) aNil))) aNil))))))
def f_law_bag : Fn := (fnS 1 2 m_law_bag)
def m_law_take : C := (sSeq (sIf (toB (eOp oEq (eOp oIx (eVar 0) (eC (.int 0))) (eC (.int 0)))) (sSeq (sSet 4 (eOp oIx (eOp oAdd (eSl (eOp oIx (eVar 0) (eC (.int 3))) (pSome (eOp oIx (eVar 0) (eC (.int 2)))) pNone) (eLst (aCons (eC (.int 0)) aNil))) (eC (.int 0)))) (sSeq (sAugS (eVar 0) (eC (.int 2)) (eC (.int 1)) oAddI) (sSeq (sIf (toB (eOp (oCmp .GtE) (eVar 4) (eOp oPow (eC (.int 10)) (eC (.int 18))))) (sPut (eVar 4) (eVar 0) (eC (.int 0))) sNx) (sSeq (sSet 5 (eOp oAdd (eOp oAdd (eOp oMul (eOp oIx (eVar 0) (eC (.int 1))) (eC (.int 48271))) (eOp oMod (eB oInt (aCons (eVar 4) aNil)) (eC (.int 2147483647)))) (eOp oMul (eC (.int 7919)) (eOp oIx (eVar 0) (eC (.int 2)))))) (sPut (eOp oMod (eB oInt (aCons (eVar 5) aNil)) (eC (.int 2147483647))) (eVar 0) (eC (.int 1))))))) sNx) (sSeq (sIf (toB (eOp (oCmp .Gt) (eOp oIx (eVar 0) (eC (.int 0))) (eC (.int 0)))) (sSeq (sSet 6 (eOp oMod (eB oInt (aCons (eOp oIx (eVar 0) (eC (.int 0))) aNil)) (eVar 1))) (sSeq (sPut (eOp oDiv (eB oInt (aCons (eOp oIx (eVar 0) (eC (.int 0))) aNil)) (eVar 1)) (eVar 0) (eC (.int 0))) (sRet (eVar 6)))) sNx) (sSeq (sSet 2 (eOp oMod (eB oInt (aCons (eOp oMul (eOp oAdd (eOp oIx (eVar 0) (eC (.int 1))) (eC (.int 1))) (eC (.int 39373))) aNil)) (eC (.int 1000000007)))) (sSeq (sSet 3 (eOp oMod (eB oInt (aCons (eOp oMul (eOp oMod (eB oInt (aCons (eOp oMul (eVar 2) (eVar 2)) aNil)) (eC (.int 998244353))) (eC (.int 30011))) aNil)) (eC (.int 998244353)))) (sRet (eOp oMod (eB oInt (aCons (eOp oDiv (eVar 3) (eC (.int 7))) aNil)) (eVar 1)))))))
def f_law_take : Fn := (fnS 2 7 m_law_take)
def m_law_three : C := (sRet (eSl (eTup (aCons (eC (.str [97])) (aCons (eC (.str [98])) (aCons (eC (.str [99])) aNil)))) pNone (pSome (eOp oAdd (eC (.int 1)) (eCall 2 f_law_take (aCons (eVar 0) (aCons (eC (.int 3)) aNil)))))))
def f_law_three : Fn := (fnS 1 1 m_law_three)
def m_law_couples : C := (sSeq (sSet 1 (eLstR aNil)) (sSeq (sFor (iRg1 (aCons (eVar 0) aNil)) (gN 2) (sE (eMt tyL oExtend (eVar 1) (aCons (eLc [3] (iRg2 (aCons (eOp oAdd (eVar 2) (eC (.int 1))) (aCons (eVar 0) aNil))) (gN 3) tYs (eTup (aCons (eVar 2) (aCons (eVar 3) aNil)))) aNil)))) (sRet (eVar 1))))
def f_law_couples : Fn := fnA (fnS 1 4 m_law_couples)
def m_law_map : C := (sSeq (sSet 3 (eOp oAdd (eC (.int 1)) (eCall 2 f_law_take (aCons (eVar 0) (aCons (eVar 2) aNil))))) (sSeq (sSet 4 (eB oTuple (aCons (eLc [8] (iSrc (eCall 1 f_law_couples (aCons (eVar 3) aNil))) (gN 8) (toB (eOp (oCmp .Lt) (eCall 2 f_law_take (aCons (eVar 0) (aCons (eC (.int 5)) aNil))) (eC (.int 2)))) (eVar 8)) aNil))) (sSeq (sSet 5 (eLstR aNil)) (sSeq (sFor (iSrc (eVar 1)) (gN 6) (sSeq (sSet 7 (eLc [9] (iRg1 (aCons (eVar 3) aNil)) (gN 9) (toB (eOp oEq (eCall 2 f_law_take (aCons (eVar 0) (aCons (eC (.int 2)) aNil))) (eC (.int 0)))) (eVar 9))) (sE (eMt tyL oAppend (eVar 5) (aCons (eTup (aCons (eVar 6) (aCons (eB oTuple (aCons (eIf (toB (eOp oNe (eVar 7) (eLst aNil))) (eVar 7) (eLst (aCons (eCall 2 f_law_take (aCons (eVar 0) (aCons (eVar 3) aNil))) aNil))) aNil)) aNil))) aNil))))) (sRet (eTup (aCons (eVar 3) (aCons (eVar 4) (aCons (eB oTuple (aCons (eVar 5) aNil)) aNil)))))))))
def f_law_map : Fn := (fnS 3 10 m_law_map)
def m_law_some : C := (sRet (eOp oIx (eVar 1) (eCall 2 f_law_take (aCons (eVar 0) (aCons (eB oLen (aCons (eVar 1) aNil)) aNil)))))
def f_law_some : Fn := (fnS 2 2 m_law_some)
def m_law_member : C := (sRet (eB oTuple (aCons (eLc [2, 3] (iSrc (eOp oIx (eVar 0) (eC (.int 2)))) (gT 2 (gsCons (gN 2) (gsCons (gN 3) gsNil))) (toB (eOp oIn (eVar 1) (eVar 3))) (eVar 2)) aNil)))
def f_law_member : Fn := fnA (fnS 2 4 m_law_member)
def f_law_alike : Fn := alike
def m_law_lots : C := (sSeq (sSet 1 (eLst (aCons (eTup aNil) aNil))) (sSeq (sFor (iRg1 (aCons (eB oLen (aCons (eVar 0) aNil)) aNil)) (gN 2) (sSet 1 (eOp oAdd (eVar 1) (eLc [4] (iSrc (eVar 1)) (gN 4) tYs (eOp oAdd (eVar 4) (eTup (aCons (eVar 2) aNil))))))) (sRet (eLc [3, 4] (iSrc (eB oSorted (aCons (eLc [4] (iSrc (eVar 1)) (gN 4) tYs (eTup (aCons (eB oLen (aCons (eVar 4) aNil)) (aCons (eVar 4) aNil)))) aNil))) (gT 2 (gsCons (gN 3) (gsCons (gN 4) gsNil))) tYs (eB oTuple (aCons (eLc [2] (iSrc (eVar 4)) (gN 2) tYs (eOp oIx (eVar 0) (eVar 2))) aNil))))))
def f_law_lots : Fn := fnA (fnS 1 5 m_law_lots)
def m_names_of : C := (sRet (eB oTuple (aCons (eLc [1, 2] (iSrc (eOp oIx (eVar 0) (eC (.int 2)))) (gT 2 (gsCons (gN 1) (gsCons (gN 2) gsNil))) tYs (eVar 1)) aNil)))
def f_names_of : Fn := fnA (fnS 1 3 m_names_of)
def m_memberships : C := (sSeq (sSet 1 (eLc [5] (iRg1 (aCons (eOp oIx (eVar 0) (eC (.int 0))) aNil)) (gN 5) tYs (eLstR aNil))) (sSeq (sFor (iSrc (eOp oIx (eVar 0) (eC (.int 2)))) (gT 2 (gsCons (gN 2) (gsCons (gN 3) gsNil))) (sFor (iSrc (eVar 3)) (gN 4) (sE (eMt tyL oAppend (eOp oIx (eVar 1) (eVar 4)) (aCons (eVar 2) aNil))))) (sRet (eB oTuple (aCons (eLc [6] (iSrc (eVar 1)) (gN 6) tYs (eB oTuple (aCons (eVar 6) aNil))) aNil)))))
def f_memberships : Fn := fnA (fnS 1 7 m_memberships)
def m_cells_with : C := (sRet (eB oTuple (aCons (eLc [2, 3] (iEn (aCons (eCall 1 f_memberships (aCons (eVar 0) aNil)) aNil)) (gT 2 (gsCons (gN 2) (gsCons (gN 3) gsNil))) (toB (eOp oEq (eVar 3) (eVar 1))) (eVar 2)) aNil)))
def f_cells_with : Fn := fnA (fnS 2 4 m_cells_with)
def m_is_integer : C := (sRet (eAn (eIsi .int (eVar 0)) (eNt (eIsi .bool (eVar 0)))))
def f_is_integer : Fn := fnA (fnS 1 1 m_is_integer)
def m_is_count : C := (sRet (eAn (eCall 1 f_is_integer (aCons (eVar 0) aNil)) (eOp (oCmp .GtE) (eVar 0) (eC (.int 0)))))
def f_is_count : Fn := fnA (fnS 1 1 m_is_count)
def m_is_counts : C := (sRet (eAn (eIsi .tuple (eVar 0)) (eB oAll (aCons (eLc [1] (iSrc (eVar 0)) (gN 1) tYs (eCall 1 f_is_count (aCons (eVar 1) aNil))) aNil))))
def f_is_counts : Fn := fnA (fnS 1 2 m_is_counts)
def m_check_cells : C := (sIf (tOr_ (tNt (toB (eCall 1 f_is_counts (aCons (eVar 1) aNil)))) (tNt (toB (eB oAll (aCons (eLc [2] (iSrc (eVar 1)) (gN 2) tYs (eOp (oCmp .Lt) (eVar 2) (eOp oIx (eVar 0) (eC (.int 0))))) aNil))))) (sRaise "Nothing") sNx)
def f_check_cells : Fn := fnA (fnS 2 3 m_check_cells)
def m_seams_between : C := (sSeq (sE (eCall 2 f_check_cells (aCons (eVar 0) (aCons (eVar 1) aNil)))) (sSeq (sE (eCall 2 f_check_cells (aCons (eVar 0) (aCons (eVar 2) aNil)))) (sSeq (sPar 4 5 (aCons (eDc [8] (iSrc (eVar 1)) (gN 8) tYs (eVar 8) (eC (.bl true))) (aCons (eDc [8] (iSrc (eVar 2)) (gN 8) tYs (eVar 8) (eC (.bl true))) aNil))) (sSeq (sSet 3 (eLstR aNil)) (sSeq (sFor (iSrc (eOp oIx (eVar 0) (eC (.int 1)))) (gT 2 (gsCons (gN 6) (gsCons (gN 7) gsNil))) (sIf (tOr_ (tAn (toB (eOp oIn (eVar 6) (eVar 4))) (toB (eOp oIn (eVar 7) (eVar 5)))) (tAn (toB (eOp oIn (eVar 7) (eVar 4))) (toB (eOp oIn (eVar 6) (eVar 5))))) (sE (eMt tyL oAppend (eVar 3) (aCons (eTup (aCons (eVar 6) (aCons (eVar 7) aNil))) aNil))) sNx)) (sRet (eB oTuple (aCons (eVar 3) aNil))))))))
def f_seams_between : Fn := fnA (fnS 3 9 m_seams_between)
def m_check_cell : C := (sIf (tOr_ (tNt (toB (eCall 1 f_is_count (aCons (eVar 1) aNil)))) (toB (eOp (oCmp .GtE) (eVar 1) (eOp oIx (eVar 0) (eC (.int 0)))))) (sRaise "Nothing") sNx)
def f_check_cell : Fn := fnA (fnS 2 2 m_check_cell)
def m_membership : C := (sSeq (sE (eCall 2 f_check_cell (aCons (eVar 0) (aCons (eVar 1) aNil)))) (sRet (eB oTuple (aCons (eLc [2, 3] (iSrc (eOp oIx (eVar 0) (eC (.int 2)))) (gT 2 (gsCons (gN 2) (gsCons (gN 3) gsNil))) (toB (eOp oIn (eVar 1) (eVar 3))) (eVar 2)) aNil))))
def f_membership : Fn := fnA (fnS 2 4 m_membership)
def m_has_seam : C := (sSeq (sE (eCall 2 f_check_cells (aCons (eVar 0) (aCons (eTup (aCons (eVar 1) (aCons (eVar 2) aNil))) aNil)))) (sRet (eOp oIn (eTup (aCons (eB oMin (aCons (eVar 1) (aCons (eVar 2) aNil))) (aCons (eB oMax (aCons (eVar 1) (aCons (eVar 2) aNil))) aNil))) (eOp oIx (eVar 0) (eC (.int 1))))))
def f_has_seam : Fn := fnA (fnS 3 3 m_has_seam)
def m_is_name : C := (sSeq (sIf (tOr_ (tNt (toB (eIsi .str (eVar 0)))) (tOr_ (tNt (toB (eChain (oCmp .LtE) (oCmp .LtE) (eC (.int 1)) (eB oLen (aCons (eVar 0) aNil)) (eC (.int 8))))) (toB (eOp oNotIn (eOp oIx (eVar 0) (eC (.int 0))) (eC (.str [97, 98, 99, 100, 101, 102, 103, 104, 105, 106, 107, 108, 109, 110, 111, 112, 113, 114, 115, 116, 117, 118, 119, 120, 121, 122])))))) (sRet (eC (.bl false))) sNx) (sRet (eAn (eB oAll (aCons (eLc [1] (iSrc (eVar 0)) (gN 1) tYs (eOp oIn (eVar 1) (eOp oAdd (eC (.str [97, 98, 99, 100, 101, 102, 103, 104, 105, 106, 107, 108, 109, 110, 111, 112, 113, 114, 115, 116, 117, 118, 119, 120, 121, 122])) (eC (.str [48, 49, 50, 51, 52, 53, 54, 55, 56, 57]))))) aNil)) (eOp oNotIn (eVar 0) (eC (.tup [(.str [97, 108, 108]), (.str [97, 110, 100]), (.str [97, 112, 97, 114, 116]), (.str [98, 97, 114, 114, 101, 100]), (.str [99, 101, 108, 108]), (.str [100, 101, 101, 112]), (.str [104, 111, 108, 100, 115]), (.str [105, 110]), (.str [105, 110, 115, 105, 100, 101]), (.str [109, 97, 112]), (.str [110, 111]), (.str [110, 111, 110, 101]), (.str [110, 111, 116]), (.str [111, 102]), (.str [111, 110, 101]), (.str [111, 114]), (.str [111, 118, 101, 114]), (.str [115, 97, 109, 101]), (.str [115, 101, 97, 109]), (.str [115, 111, 109, 101]), (.str [116, 111, 117, 99, 104]), (.str [119, 97, 121]), (.str [122, 111, 110, 101])]))))))
def f_is_name : Fn := fnA (fnS 1 2 m_is_name)
def m_cells_in : C := (sSeq (sSet 2 (eB oDict (aCons (eOp oIx (eVar 0) (eC (.int 2))) aNil))) (sSeq (sIf (tOr_ (tNt (toB (eCall 1 f_is_name (aCons (eVar 1) aNil)))) (toB (eOp oNotIn (eVar 1) (eVar 2)))) (sRaise "Nothing") sNx) (sRet (eOp oIx (eVar 2) (eVar 1)))))
def f_cells_in : Fn := fnA (fnS 2 3 m_cells_in)
def m_beside : C := (sSeq (sE (eCall 2 f_check_cell (aCons (eVar 0) (aCons (eVar 1) aNil)))) (sSeq (sSet 2 (eOp oAdd (eLc [3, 4] (iSrc (eOp oIx (eVar 0) (eC (.int 1)))) (gT 2 (gsCons (gN 3) (gsCons (gN 4) gsNil))) (toB (eOp oEq (eVar 3) (eVar 1))) (eVar 4)) (eLc [3, 4] (iSrc (eOp oIx (eVar 0) (eC (.int 1)))) (gT 2 (gsCons (gN 3) (gsCons (gN 4) gsNil))) (toB (eOp oEq (eVar 4) (eVar 1))) (eVar 3)))) (sRet (eB oTuple (aCons (eB oSorted (aCons (eVar 2) aNil)) aNil)))))
def f_beside : Fn := fnA (fnS 2 5 m_beside)
def m_law_near : C := (sRet (eB oTuple (aCons (eB oSorted (aCons (eOp oAdd (eLc [2, 3] (iSrc (eOp oIx (eVar 0) (eC (.int 1)))) (gT 2 (gsCons (gN 2) (gsCons (gN 3) gsNil))) (toB (eOp oEq (eVar 2) (eVar 1))) (eVar 3)) (eLc [2, 3] (iSrc (eOp oIx (eVar 0) (eC (.int 1)))) (gT 2 (gsCons (gN 2) (gsCons (gN 3) gsNil))) (toB (eOp oEq (eVar 3) (eVar 1))) (eVar 2))) aNil)) aNil)))
def f_law_near : Fn := fnA (fnS 2 4 m_law_near)
def m_law_seams_of : C := (sSeq (sSet 3 (eLstR aNil)) (sSeq (sFor (iSrc (eOp oIx (eVar 0) (eC (.int 1)))) (gT 2 (gsCons (gN 4) (gsCons (gN 5) gsNil))) (sE (eMt tyL oExtend (eVar 3) (aCons (eIf (tOr_ (tAn (toB (eOp oIn (eVar 4) (eVar 1))) (toB (eOp oIn (eVar 5) (eVar 2)))) (tAn (toB (eOp oIn (eVar 5) (eVar 1))) (toB (eOp oIn (eVar 4) (eVar 2))))) (eLst (aCons (eTup (aCons (eVar 4) (aCons (eVar 5) aNil))) aNil)) (eLst aNil)) aNil)))) (sRet (eB oTuple (aCons (eVar 3) aNil)))))
def f_law_seams_of : Fn := fnA (fnS 3 6 m_law_seams_of)
def m_law : C := (sSeq (sSet 1 (eCall 1 f_law_bag (aCons (eVar 0) aNil))) (sSeq (sFor (iRg1 (aCons (eC (.int 6)) aNil)) (gN 2) (sSeq (sSet 3 (eCall 1 f_law_three (aCons (eVar 1) aNil))) (sSeq (sSet 4 (eCall 3 f_law_map (aCons (eVar 1) (aCons (eVar 3) (aCons (eC (.int 6)) aNil))))) (sSeq (sAsg (gT 3 (gsCons (gN 10) (gsCons (gN 11) (gsCons (gN 12) gsNil)))) (eVar 4)) (sSeq (sSet 5 (eLc [16] (iRg1 (aCons (eVar 10) aNil)) (gN 16) tYs (eCall 2 f_law_member (aCons (eVar 4) (aCons (eVar 16) aNil))))) (sSeq (sIf (tNt (toB (eCall 2 f_law_alike (aCons (eLst (aCons (eCall 1 f_names_of (aCons (eVar 4) aNil)) (aCons (eCall 1 f_memberships (aCons (eVar 4) aNil)) (aCons (eLc [18] (iSrc (eVar 3)) (gN 18) tYs (eCall 2 f_cells_in (aCons (eVar 4) (aCons (eVar 18) aNil)))) aNil)))) (aCons (eLst (aCons (eVar 3) (aCons (eB oTuple (aCons (eVar 5) aNil)) (aCons (eLc [18, 19] (iSrc (eVar 12)) (gT 2 (gsCons (gN 18) (gsCons (gN 19) gsNil))) tYs (eVar 19)) aNil)))) aNil))))) (sRet (eC (.bl false))) sNx) (sSeq (sIf (tNt (toB (eCall 2 f_law_alike (aCons (eLc [16] (iRg1 (aCons (eVar 10) aNil)) (gN 16) tYs (eLst (aCons (eCall 2 f_membership (aCons (eVar 4) (aCons (eVar 16) aNil))) (aCons (eCall 2 f_beside (aCons (eVar 4) (aCons (eVar 16) aNil))) aNil)))) (aCons (eLc [16] (iRg1 (aCons (eVar 10) aNil)) (gN 16) tYs (eLst (aCons (eOp oIx (eVar 5) (eVar 16)) (aCons (eCall 2 f_law_near (aCons (eVar 4) (aCons (eVar 16) aNil))) aNil)))) aNil))))) (sRet (eC (.bl false))) sNx) (sSeq (sFor (iSrc (eOp oAdd (eCall 1 f_law_lots (aCons (eB oList (aCons (eVar 3) aNil)) aNil)) (eLst (aCons (eTup (aCons (eC (.str [122, 122])) aNil)) (aCons (eC .non) (aCons (eLst (aCons (eC (.str [97])) aNil)) aNil)))))) (gN 6) (sIf (tNt (toB (eCall 2 f_law_alike (aCons (eCall 2 f_cells_with (aCons (eVar 4) (aCons (eVar 6) aNil))) (aCons (eB oTuple (aCons (eLc [16] (iRg1 (aCons (eVar 10) aNil)) (gN 16) (toB (eOp oEq (eOp oIx (eVar 5) (eVar 16)) (eVar 6))) (eVar 16)) aNil)) aNil))))) (sRet (eC (.bl false))) sNx)) (sSeq (sFor (iRg1 (aCons (eVar 10) aNil)) (gN 7) (sFor (iRg1 (aCons (eVar 10) aNil)) (gN 13) (sIf (tNt (toB (eCall 2 f_law_alike (aCons (eCall 3 f_has_seam (aCons (eVar 4) (aCons (eVar 7) (aCons (eVar 13) aNil)))) (aCons (eOp oIn (eTup (aCons (eB oMin (aCons (eVar 7) (aCons (eVar 13) aNil))) (aCons (eB oMax (aCons (eVar 7) (aCons (eVar 13) aNil))) aNil))) (eVar 11)) aNil))))) (sRet (eC (.bl false))) sNx))) (sSeq (sAsg (gTL 2 (gsCons (gN 14) (gsCons (gN 15) gsNil))) (eLc [17] (iRg1 (aCons (eC (.int 2)) aNil)) (gN 17) tYs (eB oTuple (aCons (eLc [16] (iRg1 (aCons (eVar 10) aNil)) (gN 16) (toB (eOp oEq (eCall 2 f_law_take (aCons (eVar 1) (aCons (eC (.int 2)) aNil))) (eC (.int 0)))) (eVar 16)) aNil)))) (sSeq (sIf (tNt (toB (eCall 2 f_law_alike (aCons (eLst (aCons (eCall 3 f_seams_between (aCons (eVar 4) (aCons (eVar 14) (aCons (eVar 15) aNil)))) (aCons (eCall 3 f_seams_between (aCons (eVar 4) (aCons (eRev (eVar 15)) (aCons (eVar 14) aNil)))) aNil))) (aCons (eRepL (aCons (eCall 3 f_law_seams_of (aCons (eVar 4) (aCons (eVar 14) (aCons (eVar 15) aNil)))) aNil) (eC (.int 2))) aNil))))) (sRet (eC (.bl false))) sNx) (sSeq (sSet 8 (eCall 2 f_law_some (aCons (eVar 1) (aCons (eLst (aCons (eNeg (eC (.int 1))) (aCons (eVar 10) (aCons (eC (.bl true)) (aCons (eC .non) (aCons (eC (.str [48])) aNil)))))) aNil)))) (sSeq (sSet 9 (eLstR (aCons (eHeard lamQ [116, 111, 108, 100] [110, 111, 116, 104, 105, 110, 103] [("Nothing", true)] (eCall 2 f_membership (aCons (eVar 4) (aCons (eVar 8) aNil)))) aNil))) (sSeq (sE (eMt tyL oAppend (eVar 9) (aCons (eHeard lamQ [116, 111, 108, 100] [110, 111, 116, 104, 105, 110, 103] [("Nothing", true)] (eCall 3 f_has_seam (aCons (eVar 4) (aCons (eC (.int 0)) (aCons (eVar 8) aNil))))) aNil))) (sSeq (sE (eMt tyL oAppend (eVar 9) (aCons (eHeard lamQ [116, 111, 108, 100] [110, 111, 116, 104, 105, 110, 103] [("Nothing", true)] (eCall 3 f_seams_between (aCons (eVar 4) (aCons (eTup (aCons (eVar 8) aNil)) (aCons (eTup aNil) aNil))))) aNil))) (sSeq (sE (eMt tyL oAppend (eVar 9) (aCons (eHeard lamQ [116, 111, 108, 100] [110, 111, 116, 104, 105, 110, 103] [("Nothing", true)] (eCall 3 f_seams_between (aCons (eVar 4) (aCons (eTup aNil) (aCons (eLst (aCons (eC (.int 0)) aNil)) aNil))))) aNil))) (sSeq (sE (eMt tyL oAppend (eVar 9) (aCons (eHeard lamQ [116, 111, 108, 100] [110, 111, 116, 104, 105, 110, 103] [("Nothing", true)] (eCall 2 f_cells_in (aCons (eVar 4) (aCons (eCall 2 f_law_some (aCons (eVar 1) (aCons (eLst (aCons (eC (.str [122, 122])) (aCons (eC (.str [65])) (aCons (eC .non) (aCons (eC (.int 1)) aNil))))) aNil))) aNil)))) aNil))) (sIf (toB (eOp oNe (eVar 9) (eRepL (aCons (eTup (aCons (eC (.str [110, 111, 116, 104, 105, 110, 103])) aNil)) aNil) (eC (.int 5))))) (sRet (eC (.bl false))) sNx)))))))))))))))))) (sRet (eC (.bl true)))))
def f_law : Fn := (fnS 1 20 m_law)
end Zk16

namespace Zk16
open PySem PySem.Spec PyProof PyProof.Rows L2 Z
structure Gm where
  n : Nat
  sm : List (Nat × Nat)
  zs : List Zn
def gD (m : Gm) : D := gmD m.n m.sm m.zs
def abc : List (List Nat) := [[97], [98], [99]]
structure Gm.Ok (m : Gm) : Prop where
  n1 : 1 ≤ m.n
  n : m.n ≤ 8
  sub : m.sm.Sublist (couplesL m.n)
  nm : ∃ k, 1 ≤ k ∧ k ≤ 3 ∧ m.zs.map (·.1) = abc.take k
  z : ∀ z ∈ m.zs, ZOk m.n z
theorem couples_len {n : Nat} (h : n ≤ 8) : (couplesL n).length ≤ 28 := by
  have : n = 0 ∨ n = 1 ∨ n = 2 ∨ n = 3 ∨ n = 4 ∨ n = 5 ∨ n = 6 ∨ n = 7 ∨ n = 8 := by omega
  rcases this with rfl | rfl | rfl | rfl | rfl | rfl | rfl | rfl | rfl <;> decide
theorem Gm.Ok.sl28 {m : Gm} (h : m.Ok) : m.sm.length ≤ 28 := Nat.le_trans h.sub.length_le (couples_len h.n)
theorem Gm.Ok.sl {m : Gm} (h : m.Ok) : m.sm.length ≤ 1000 := Nat.le_trans h.sl28 (by decide)
theorem Gm.Ok.sm {m : Gm} (h : m.Ok) : ∀ p ∈ m.sm, p.1 < p.2 ∧ p.2 < m.n := fun p hp => couples_lt (h.sub.subset hp)
theorem Gm.Ok.zl {m : Gm} (h : m.Ok) : m.zs.length ≤ 3 := by
  obtain ⟨k, _, h3, e⟩ := h.nm
  have := congrArg List.length e
  rw [List.length_map, List.length_take] at this
  have : abc.length = 3 := rfl
  omega
theorem Gm.Ok.zc {m : Gm} (h : m.Ok) {z : Zn} (hz : z ∈ m.zs) : ∀ c ∈ z.2, c < m.n := fun c hc => List.mem_range.mp ((h.z z hz).2.subset hc)
theorem Gm.Ok.zn {m : Gm} (h : m.Ok) {z : Zn} (hz : z ∈ m.zs) : z.2.Nodup := (h.z z hz).2.nodup List.nodup_range
theorem Gm.Ok.zz {m : Gm} (h : m.Ok) {z : Zn} (hz : z ∈ m.zs) : z.2.length ≤ 8 := by
  have := (h.z z hz).2.length_le
  rw [List.length_range] at this
  have := h.n
  omega
theorem cells_nrf (l : List Nat) : nrf (cellsD l) = true := by simp [cellsD, nrf, nrfs_nat]
theorem znD_eq (z : Zn) : znD z = .tup [.str z.1, cellsD z.2] := rfl
theorem nrfs_zn : ∀ l : List Zn, nrfs (l.map znD) = true
  | [] => rfl
  | z :: l => by rw [List.map_cons, nrfs, nrfs_zn l, znD_eq]; simp [nrf, nrfs, cells_nrf]
theorem gm_nrf (m : Gm) : nrf (gD m) = true := by simp [gD, gmD, nrf, nrfs, nD, nrfs_cp, nrfs_zn]
theorem nrfs_str : ∀ l : List (List Nat), nrfs (l.map .str) = true
  | [] => rfl
  | _ :: l => by rw [List.map_cons, nrfs, nrfs_str l]; rfl
def rowL (zs : List Zn) (c : Nat) : List (List Nat) := (zs.filter fun z => z.2.contains c).map (·.1)
def rowD (m : Gm) (c : Nat) : D := .tup ((rowL m.zs c).map .str)
theorem row_nrf (m : Gm) (c : Nat) : nrf (rowD m c) = true := by simp [rowD, nrf, nrfs_str]
theorem fnA_ex {F : Fn} {ds : List D} {S S1 : Sto} {c : PySem.Str} (h : nrfs ds = true) (e : F ds Sto.nil = .ex ⟨c, []⟩ S1) : fnA F ds S = .ex ⟨c, []⟩ S := by
  unfold fnA
  rw [if_pos h, e]
  rfl
theorem row_e {m : Gm} (hm : m.Ok) (c : Nat) : eLc [2, 3] (iSrc (eOp oIx (eVar 0) (eC (.int 2)))) (gT 2 (gsCons (gN 2) (gsCons (gN 3) gsNil))) (toB (eOp oIn (eVar 1) (eVar 3))) (eVar 2) [some (gD m), some (nD c), none, none] Sto.nil = .ok (.lst ((rowL m.zs c).map .str)) Sto.nil := by
  have z := eLc_f (vs := [2, 3]) (mi := iSrc (eOp oIx (eVar 0) (eC (.int 2)))) (g := gT 2 (gsCons (gN 2) (gsCons (gN 3) gsNil))) (t := toB (eOp oIn (eVar 1) (eVar 3))) (e := eVar 2) (ρ := [some (gD m), some (nD c), none, none]) (S := Sto.nil) (emb := znD) (out := fun z => .str z.1) (fun z => z.2.contains c) (xs := m.zs) ?_ (fun z hz => ?_) (by have := hm.zl; omega)
  · rw [z]; simp [rowL, Function.comp]
  · simp only [fnS, env0, sSeq, sSet, sRet, sRetN, sIf, sE, sAsg, sPar, sNx, sPut, R.toS, R.bind, eVar, eC, eOp, eTup, eLst, eLstR, aCons, aNil, eIf, eAn, eOr, eNt, eIsi, toB, tNt, tAn, tOr_, tYs, eCall, eCall0, eB, eMt, eMt0, iSrc, iRg1, iRg2, iEn, iZp, gN, gT, gsCons, gsNil, turnS, List.map_cons, List.map_nil, List.length_cons, List.length_nil, List.replicate, List.cons_append, List.nil_append, List.getElem?_cons_zero, List.getElem?_cons_succ, List.set_cons_zero, List.set_cons_succ, Nat.sub_self, Nat.reduceSub, Nat.reduceAdd, if_true, Bool.false_eq_true, if_false, ite_true, ite_false, List.cons.injEq, and_false, false_and, true_and, and_true, decide_false, decide_true, Bool.not_true, Bool.not_false, Bool.true_and, Bool.false_and, Bool.and_true, Bool.and_false, Bool.or_false, Bool.or_true, Bool.false_or, Bool.true_or, Nat.reduceEqDiff, reduceCtorEq, eSl, pSome, pNone, lcT, wipeE, fits_0, fits_1, fits_2, fits_3, fits_4, gD, gmD, z_t2, srcOf]
  · simp only [fnS, env0, sSeq, sSet, sRet, sRetN, sIf, sE, sAsg, sPar, sNx, sPut, R.toS, R.bind, eVar, eC, eOp, eTup, eLst, eLstR, aCons, aNil, eIf, eAn, eOr, eNt, eIsi, toB, tNt, tAn, tOr_, tYs, eCall, eCall0, eB, eMt, eMt0, iSrc, iRg1, iRg2, iEn, iZp, gN, gT, gsCons, gsNil, turnS, List.map_cons, List.map_nil, List.length_cons, List.length_nil, List.replicate, List.cons_append, List.nil_append, List.getElem?_cons_zero, List.getElem?_cons_succ, List.set_cons_zero, List.set_cons_succ, Nat.sub_self, Nat.reduceSub, Nat.reduceAdd, if_true, Bool.false_eq_true, if_false, ite_true, ite_false, List.cons.injEq, and_false, false_and, true_and, and_true, decide_false, decide_true, Bool.not_true, Bool.not_false, Bool.true_and, Bool.false_and, Bool.and_true, Bool.and_false, Bool.or_false, Bool.or_true, Bool.false_or, Bool.true_or, Nat.reduceEqDiff, reduceCtorEq, eSl, pSome, pNone, lcT, wipeE, fits_0, fits_1, fits_2, fits_3, fits_4, znD_eq, gT, rd, z_inN]
    exact ite_ok
theorem q_member {m : Gm} (hm : m.Ok) (c : Nat) (S : Sto) : f_law_member [gD m, nD c] S = .ok (rowD m c) S := by
  refine fnA_ok (S1 := Sto.nil) (by simp [nrfs, gm_nrf, nD, nrf]) ?_ (row_nrf m c)
  refine fn_rt (st_ret ?_)
  have e := row_e hm c
  show (eB oTuple (aCons _ aNil)) [some (gD m), some (nD c), none, none] Sto.nil = _
  revert e
  generalize eLc _ _ _ _ _ = E
  intro e
  simp only [fnS, env0, sSeq, sSet, sRet, sRetN, sIf, sE, sAsg, sPar, sNx, sPut, R.toS, R.bind, eVar, eC, eOp, eTup, eLst, eLstR, aCons, aNil, eIf, eAn, eOr, eNt, eIsi, toB, tNt, tAn, tOr_, tYs, eCall, eCall0, eB, eMt, eMt0, iSrc, iRg1, iRg2, iEn, iZp, gN, gT, gsCons, gsNil, turnS, List.map_cons, List.map_nil, List.length_cons, List.length_nil, List.replicate, List.cons_append, List.nil_append, List.getElem?_cons_zero, List.getElem?_cons_succ, List.set_cons_zero, List.set_cons_succ, Nat.sub_self, Nat.reduceSub, Nat.reduceAdd, if_true, Bool.false_eq_true, if_false, ite_true, ite_false, List.cons.injEq, and_false, false_and, true_and, and_true, decide_false, decide_true, Bool.not_true, Bool.not_false, Bool.true_and, Bool.false_and, Bool.and_true, Bool.and_false, Bool.or_false, Bool.or_true, Bool.false_or, Bool.true_or, Nat.reduceEqDiff, reduceCtorEq, eSl, pSome, pNone, lcT, wipeE, fits_0, fits_1, fits_2, fits_3, fits_4, e]
  rfl
theorem p_names_of {m : Gm} (hm : m.Ok) (S : Sto) : f_names_of [gD m] S = .ok (.tup ((m.zs.map (·.1)).map .str)) S := by
  refine fnA_ok (S1 := Sto.nil) (by simp [nrfs, gm_nrf]) ?_ (by simp only [nrf]; exact nrfs_str _)
  refine fn_rt (st_ret ?_)
  have e : eLc [1, 2] (iSrc (eOp oIx (eVar 0) (eC (.int 2)))) (gT 2 (gsCons (gN 1) (gsCons (gN 2) gsNil))) tYs (eVar 1) [some (gD m), none, none] Sto.nil = .ok (.lst ((m.zs.map (·.1)).map .str)) Sto.nil := by
    have z := eLc_m (vs := [1, 2]) (mi := iSrc (eOp oIx (eVar 0) (eC (.int 2)))) (g := gT 2 (gsCons (gN 1) (gsCons (gN 2) gsNil))) (t := tYs) (e := eVar 1) (ρ := [some (gD m), none, none]) (S := Sto.nil) (emb := znD) (out := fun z => .str z.1) (xs := m.zs) ?_ (fun z hz => ?_) (by have := hm.zl; omega)
    · rw [z]; simp [Function.comp]
    · simp only [fnS, env0, sSeq, sSet, sRet, sRetN, sIf, sE, sAsg, sPar, sNx, sPut, R.toS, R.bind, eVar, eC, eOp, eTup, eLst, eLstR, aCons, aNil, eIf, eAn, eOr, eNt, eIsi, toB, tNt, tAn, tOr_, tYs, eCall, eCall0, eB, eMt, eMt0, iSrc, iRg1, iRg2, iEn, iZp, gN, gT, gsCons, gsNil, turnS, List.map_cons, List.map_nil, List.length_cons, List.length_nil, List.replicate, List.cons_append, List.nil_append, List.getElem?_cons_zero, List.getElem?_cons_succ, List.set_cons_zero, List.set_cons_succ, Nat.sub_self, Nat.reduceSub, Nat.reduceAdd, if_true, Bool.false_eq_true, if_false, ite_true, ite_false, List.cons.injEq, and_false, false_and, true_and, and_true, decide_false, decide_true, Bool.not_true, Bool.not_false, Bool.true_and, Bool.false_and, Bool.and_true, Bool.and_false, Bool.or_false, Bool.or_true, Bool.false_or, Bool.true_or, Nat.reduceEqDiff, reduceCtorEq, eSl, pSome, pNone, lcT, wipeE, fits_0, fits_1, fits_2, fits_3, fits_4, gD, gmD, z_t2, srcOf]
    · simp only [fnS, env0, sSeq, sSet, sRet, sRetN, sIf, sE, sAsg, sPar, sNx, sPut, R.toS, R.bind, eVar, eC, eOp, eTup, eLst, eLstR, aCons, aNil, eIf, eAn, eOr, eNt, eIsi, toB, tNt, tAn, tOr_, tYs, eCall, eCall0, eB, eMt, eMt0, iSrc, iRg1, iRg2, iEn, iZp, gN, gT, gsCons, gsNil, turnS, List.map_cons, List.map_nil, List.length_cons, List.length_nil, List.replicate, List.cons_append, List.nil_append, List.getElem?_cons_zero, List.getElem?_cons_succ, List.set_cons_zero, List.set_cons_succ, Nat.sub_self, Nat.reduceSub, Nat.reduceAdd, if_true, Bool.false_eq_true, if_false, ite_true, ite_false, List.cons.injEq, and_false, false_and, true_and, and_true, decide_false, decide_true, Bool.not_true, Bool.not_false, Bool.true_and, Bool.false_and, Bool.and_true, Bool.and_false, Bool.or_false, Bool.or_true, Bool.false_or, Bool.true_or, Nat.reduceEqDiff, reduceCtorEq, eSl, pSome, pNone, lcT, wipeE, fits_0, fits_1, fits_2, fits_3, fits_4, znD_eq, gT, rd]
  show (eB oTuple (aCons _ aNil)) [some (gD m), none, none] Sto.nil = _
  revert e
  generalize eLc _ _ _ _ _ = E
  intro e
  simp only [fnS, env0, sSeq, sSet, sRet, sRetN, sIf, sE, sAsg, sPar, sNx, sPut, R.toS, R.bind, eVar, eC, eOp, eTup, eLst, eLstR, aCons, aNil, eIf, eAn, eOr, eNt, eIsi, toB, tNt, tAn, tOr_, tYs, eCall, eCall0, eB, eMt, eMt0, iSrc, iRg1, iRg2, iEn, iZp, gN, gT, gsCons, gsNil, turnS, List.map_cons, List.map_nil, List.length_cons, List.length_nil, List.replicate, List.cons_append, List.nil_append, List.getElem?_cons_zero, List.getElem?_cons_succ, List.set_cons_zero, List.set_cons_succ, Nat.sub_self, Nat.reduceSub, Nat.reduceAdd, if_true, Bool.false_eq_true, if_false, ite_true, ite_false, List.cons.injEq, and_false, false_and, true_and, and_true, decide_false, decide_true, Bool.not_true, Bool.not_false, Bool.true_and, Bool.false_and, Bool.and_true, Bool.and_false, Bool.or_false, Bool.or_true, Bool.false_or, Bool.true_or, Nat.reduceEqDiff, reduceCtorEq, eSl, pSome, pNone, lcT, wipeE, fits_0, fits_1, fits_2, fits_3, fits_4, e]
  rfl
theorem p_is_integer {d : D} {S : Sto} (h : val d = true) : f_is_integer [d] S = .ok (.bl (isI d)) S := by
  refine fnA_ok (S1 := Sto.nil) (by simp [nrfs, val_nrf h]) ?_ rfl
  cases d <;> first | rfl | (have := val_shp h; simp [shp] at this; done) | (have := val_nrf h; simp [nrf] at this; done)
theorem p_is_count {d : D} {S : Sto} (h : val d = true) : f_is_count [d] S = .ok (.bl (isC d)) S := by
  refine fnA_ok (S1 := Sto.nil) (by simp [nrfs, val_nrf h]) ?_ rfl
  simp only [m_is_count, fnS, env0, sSeq, sSet, sRet, sRetN, sIf, sE, sAsg, sPar, sNx, sPut, R.toS, R.bind, eVar, eC, eOp, eTup, eLst, eLstR, aCons, aNil, eIf, eAn, eOr, eNt, eIsi, toB, tNt, tAn, tOr_, tYs, eCall, eCall0, eB, eMt, eMt0, iSrc, iRg1, iRg2, iEn, iZp, gN, gT, gsCons, gsNil, turnS, List.map_cons, List.map_nil, List.length_cons, List.length_nil, List.replicate, List.cons_append, List.nil_append, List.getElem?_cons_zero, List.getElem?_cons_succ, List.set_cons_zero, List.set_cons_succ, Nat.sub_self, Nat.reduceSub, Nat.reduceAdd, if_true, Bool.false_eq_true, if_false, ite_true, ite_false, List.cons.injEq, and_false, false_and, true_and, and_true, decide_false, decide_true, Bool.not_true, Bool.not_false, Bool.true_and, Bool.false_and, Bool.and_true, Bool.and_false, Bool.or_false, Bool.or_true, Bool.false_or, Bool.true_or, Nat.reduceEqDiff, reduceCtorEq, eSl, pSome, pNone, lcT, wipeE, fits_0, fits_1, fits_2, fits_3, fits_4, p_is_integer h]
  cases d <;> first | rfl | (have := val_shp h; simp [shp] at this; done) | skip
  · simp only [isI, fnS, env0, sSeq, sSet, sRet, sRetN, sIf, sE, sAsg, sPar, sNx, sPut, R.toS, R.bind, eVar, eC, eOp, eTup, eLst, eLstR, aCons, aNil, eIf, eAn, eOr, eNt, eIsi, toB, tNt, tAn, tOr_, tYs, eCall, eCall0, eB, eMt, eMt0, iSrc, iRg1, iRg2, iEn, iZp, gN, gT, gsCons, gsNil, turnS, List.map_cons, List.map_nil, List.length_cons, List.length_nil, List.replicate, List.cons_append, List.nil_append, List.getElem?_cons_zero, List.getElem?_cons_succ, List.set_cons_zero, List.set_cons_succ, Nat.sub_self, Nat.reduceSub, Nat.reduceAdd, if_true, Bool.false_eq_true, if_false, ite_true, ite_false, List.cons.injEq, and_false, false_and, true_and, and_true, decide_false, decide_true, Bool.not_true, Bool.not_false, Bool.true_and, Bool.false_and, Bool.and_true, Bool.and_false, Bool.or_false, Bool.or_true, Bool.false_or, Bool.true_or, Nat.reduceEqDiff, reduceCtorEq, eSl, pSome, pNone, lcT, wipeE, fits_0, fits_1, fits_2, fits_3, fits_4, z_ge, isC]
def meets (l1 l2 : List Nat) (p : Nat × Nat) : Bool := (l1.contains p.1 && l2.contains p.2) || (l1.contains p.2 && l2.contains p.1)
def seamsOf (m : Gm) (l1 l2 : List Nat) : List (Nat × Nat) := m.sm.filter (meets l1 l2)
def seamsD (l : List (Nat × Nat)) : D := .tup (l.map cpD)
theorem seams_nrf (l : List (Nat × Nat)) : nrf (seamsD l) = true := by simp [seamsD, nrf, nrfs_cp]
theorem q_seams_of {m : Gm} {l1 l2 : List Nat} (hm : m.Ok) (S : Sto) : f_law_seams_of [gD m, cellsD l1, cellsD l2] S = .ok (seamsD (seamsOf m l1 l2)) S := by
  have hl := hm.sl
  have key := forS_inv (emb := cpD) (turn := turnS (gT 2 (gsCons (gN 4) (gsCons (gN 5) gsNil))) (sE (eMt tyL oExtend (eVar 3) (aCons (eIf (tOr_ (tAn (toB (eOp oIn (eVar 4) (eVar 1))) (toB (eOp oIn (eVar 5) (eVar 2)))) (tAn (toB (eOp oIn (eVar 5) (eVar 1))) (toB (eOp oIn (eVar 4) (eVar 2))))) (eLst (aCons (eTup (aCons (eVar 4) (aCons (eVar 5) aNil))) aNil)) (eLst aNil)) aNil))))
    (fun done ρ S => (∃ r4 r5, ρ = [some (gD m), some (cellsD l1), some (cellsD l2), some (.ref 0), r4, r5]) ∧ S = st1 ((done.filter (meets l1 l2)).map cpD)) m.sm [some (gD m), some (cellsD l1), some (cellsD l2), some (.ref 0), none, none] (st1 []) ?_ ⟨⟨none, none, rfl⟩, rfl⟩
  · obtain ⟨ρ', S', e, ⟨r4, r5, eρ⟩, eS⟩ := key
    refine fnA_ok (S1 := S') (by simp [nrfs, gm_nrf, cells_nrf]) ?_ (seams_nrf _)
    refine fn_rt ?_
    unfold m_law_seams_of
    refine sq_nx (st_set (d := .ref 0) (S' := st1 []) rfl) ?_
    refine sq_nx (st_for (ds := m.sm.map cpD) (by simp only [fnS, env0, sSeq, sSet, sRet, sRetN, sIf, sE, sAsg, sPar, sNx, sPut, R.toS, R.bind, eVar, eC, eOp, eTup, eLst, eLstR, aCons, aNil, eIf, eAn, eOr, eNt, eIsi, toB, tNt, tAn, tOr_, tYs, eCall, eCall0, eB, eMt, eMt0, iSrc, iRg1, iRg2, iEn, iZp, gN, gT, gsCons, gsNil, turnS, List.map_cons, List.map_nil, List.length_cons, List.length_nil, List.replicate, List.cons_append, List.nil_append, List.getElem?_cons_zero, List.getElem?_cons_succ, List.set_cons_zero, List.set_cons_succ, Nat.sub_self, Nat.reduceSub, Nat.reduceAdd, if_true, Bool.false_eq_true, if_false, ite_true, ite_false, List.cons.injEq, and_false, false_and, true_and, and_true, decide_false, decide_true, Bool.not_true, Bool.not_false, Bool.true_and, Bool.false_and, Bool.and_true, Bool.and_false, Bool.or_false, Bool.or_true, Bool.false_or, Bool.true_or, Nat.reduceEqDiff, reduceCtorEq, eSl, pSome, pNone, lcT, wipeE, fits_0, fits_1, fits_2, fits_3, fits_4, gD, gmD, z_t1, srcOf]) e) ?_
    refine st_ret ?_
    subst eρ eS
    rfl
  · rintro done x rest ρ S hw ⟨⟨r4, r5, rfl⟩, rfl⟩
    have hlen : (done.filter (meets l1 l2)).length ≤ 1000 := by
      have := List.length_filter_le (meets l1 l2) done
      have : (done ++ x :: rest).length ≤ 1000 := by rw [hw]; exact hl
      simp at this
      omega
    refine ⟨[some (gD m), some (cellsD l1), some (cellsD l2), some (.ref 0), some (nD x.1), some (nD x.2)], st1 (((done ++ [x]).filter (meets l1 l2)).map cpD), ?_, ⟨_, _, rfl⟩, rfl⟩
    have e : ((done ++ [x]).filter (meets l1 l2)).map cpD = (done.filter (meets l1 l2)).map cpD ++ if meets l1 l2 x = true then [cpD x] else [] := by
      rw [List.filter_append, List.map_append]
      congr 1
      by_cases h : meets l1 l2 x = true
      · rw [if_pos h, List.filter_cons_of_pos h]; rfl
      · rw [if_neg h, List.filter_cons_of_neg h]; rfl
    have h0 : ((done.filter (meets l1 l2)).map cpD).length + 1 ≤ 16777216 := by rw [List.length_map]; omega
    rw [e, show meets l1 l2 x = ((l1.contains x.1 && l2.contains x.2) || (l1.contains x.2 && l2.contains x.1)) from rfl]
    generalize (done.filter (meets l1 l2)).map cpD = acc at h0 ⊢
    have e0 : oExtend (.ref 0) [.lst []] (st1 acc) = .ok .non (st1 (acc ++ [])) := ext_1 (by simp; omega)
    have e1 : oExtend (.ref 0) [.lst [.tup [nD x.1, nD x.2]]] (st1 acc) = .ok .non (st1 (acc ++ [.tup [nD x.1, nD x.2]])) := ext_1 (by simpa using h0)
    simp only [turnS, gT, cpD, rd, fnS, env0, sSeq, sSet, sRet, sRetN, sIf, sE, sAsg, sPar, sNx, sPut, R.toS, R.bind, eVar, eC, eOp, eTup, eLst, eLstR, aCons, aNil, eIf, eAn, eOr, eNt, eIsi, toB, tNt, tAn, tOr_, tYs, eCall, eCall0, eB, eMt, eMt0, iSrc, iRg1, iRg2, iEn, iZp, gN, gT, gsCons, gsNil, turnS, List.map_cons, List.map_nil, List.length_cons, List.length_nil, List.replicate, List.cons_append, List.nil_append, List.getElem?_cons_zero, List.getElem?_cons_succ, List.set_cons_zero, List.set_cons_succ, Nat.sub_self, Nat.reduceSub, Nat.reduceAdd, if_true, Bool.false_eq_true, if_false, ite_true, ite_false, List.cons.injEq, and_false, false_and, true_and, and_true, decide_false, decide_true, Bool.not_true, Bool.not_false, Bool.true_and, Bool.false_and, Bool.and_true, Bool.and_false, Bool.or_false, Bool.or_true, Bool.false_or, Bool.true_or, Nat.reduceEqDiff, reduceCtorEq, eSl, pSome, pNone, lcT, wipeE, fits_0, fits_1, fits_2, fits_3, fits_4, z_inN, show ∀ l, tyL (.ref 0) (st1 l) = true from fun _ => rfl, show fits 2 = true from rfl, show fits 1 = true from rfl, show fits 0 = true from rfl]
    cases l1.contains x.1 <;> cases l2.contains x.2 <;> cases l1.contains x.2 <;> cases l2.contains x.1 <;> simp only [fnS, env0, sSeq, sSet, sRet, sRetN, sIf, sE, sAsg, sPar, sNx, sPut, R.toS, R.bind, eVar, eC, eOp, eTup, eLst, eLstR, aCons, aNil, eIf, eAn, eOr, eNt, eIsi, toB, tNt, tAn, tOr_, tYs, eCall, eCall0, eB, eMt, eMt0, iSrc, iRg1, iRg2, iEn, iZp, gN, gT, gsCons, gsNil, turnS, List.map_cons, List.map_nil, List.length_cons, List.length_nil, List.replicate, List.cons_append, List.nil_append, List.getElem?_cons_zero, List.getElem?_cons_succ, List.set_cons_zero, List.set_cons_succ, Nat.sub_self, Nat.reduceSub, Nat.reduceAdd, if_true, Bool.false_eq_true, if_false, ite_true, ite_false, List.cons.injEq, and_false, false_and, true_and, and_true, decide_false, decide_true, Bool.not_true, Bool.not_false, Bool.true_and, Bool.false_and, Bool.and_true, Bool.and_false, Bool.or_false, Bool.or_true, Bool.false_or, Bool.true_or, Nat.reduceEqDiff, reduceCtorEq, eSl, pSome, pNone, lcT, wipeE, fits_0, fits_1, fits_2, fits_3, fits_4, e0, e1]
theorem p_is_counts (l : List Nat) (hl : l.length ≤ 1000) (S : Sto) : f_is_counts [cellsD l] S = .ok (.bl true) S := by
  refine fnA_ok (S1 := Sto.nil) (by simp [nrfs, cells_nrf]) ?_ rfl
  refine fn_rt (st_ret ?_)
  have e : eLc [1] (iSrc (eVar 0)) (gN 1) tYs (eCall 1 f_is_count (aCons (eVar 1) aNil)) [some (cellsD l), none] Sto.nil = .ok (.lst ((l.map fun _ => true).map .bl)) Sto.nil := by
    rw [List.map_map]
    refine eLc_m (emb := nD) (xs := l) ?_ (fun c _ => ?_) (by omega)
    · simp only [fnS, env0, sSeq, sSet, sRet, sRetN, sIf, sE, sAsg, sPar, sNx, sPut, R.toS, R.bind, eVar, eC, eOp, eTup, eLst, eLstR, aCons, aNil, eIf, eAn, eOr, eNt, eIsi, toB, tNt, tAn, tOr_, tYs, eCall, eCall0, eB, eMt, eMt0, iSrc, iRg1, iRg2, iEn, iZp, gN, gT, gsCons, gsNil, turnS, List.map_cons, List.map_nil, List.length_cons, List.length_nil, List.replicate, List.cons_append, List.nil_append, List.getElem?_cons_zero, List.getElem?_cons_succ, List.set_cons_zero, List.set_cons_succ, Nat.sub_self, Nat.reduceSub, Nat.reduceAdd, if_true, Bool.false_eq_true, if_false, ite_true, ite_false, List.cons.injEq, and_false, false_and, true_and, and_true, decide_false, decide_true, Bool.not_true, Bool.not_false, Bool.true_and, Bool.false_and, Bool.and_true, Bool.and_false, Bool.or_false, Bool.or_true, Bool.false_or, Bool.true_or, Nat.reduceEqDiff, reduceCtorEq, eSl, pSome, pNone, lcT, wipeE, fits_0, fits_1, fits_2, fits_3, fits_4, cellsD, srcOf]
    · have : isC (nD c) = true := by simp [isC, nD]
      simp only [fnS, env0, sSeq, sSet, sRet, sRetN, sIf, sE, sAsg, sPar, sNx, sPut, R.toS, R.bind, eVar, eC, eOp, eTup, eLst, eLstR, aCons, aNil, eIf, eAn, eOr, eNt, eIsi, toB, tNt, tAn, tOr_, tYs, eCall, eCall0, eB, eMt, eMt0, iSrc, iRg1, iRg2, iEn, iZp, gN, gT, gsCons, gsNil, turnS, List.map_cons, List.map_nil, List.length_cons, List.length_nil, List.replicate, List.cons_append, List.nil_append, List.getElem?_cons_zero, List.getElem?_cons_succ, List.set_cons_zero, List.set_cons_succ, Nat.sub_self, Nat.reduceSub, Nat.reduceAdd, if_true, Bool.false_eq_true, if_false, ite_true, ite_false, List.cons.injEq, and_false, false_and, true_and, and_true, decide_false, decide_true, Bool.not_true, Bool.not_false, Bool.true_and, Bool.false_and, Bool.and_true, Bool.and_false, Bool.or_false, Bool.or_true, Bool.false_or, Bool.true_or, Nat.reduceEqDiff, reduceCtorEq, eSl, pSome, pNone, lcT, wipeE, fits_0, fits_1, fits_2, fits_3, fits_4, p_is_count (show val (nD c) = true from rfl), this, Function.comp]
  show (eAn (eIsi .tuple (eVar 0)) (eB oAll (aCons _ aNil))) [some (cellsD l), none] Sto.nil = _
  revert e
  generalize eLc _ _ _ _ _ = E
  intro e
  simp only [fnS, env0, sSeq, sSet, sRet, sRetN, sIf, sE, sAsg, sPar, sNx, sPut, R.toS, R.bind, eVar, eC, eOp, eTup, eLst, eLstR, aCons, aNil, eIf, eAn, eOr, eNt, eIsi, toB, tNt, tAn, tOr_, tYs, eCall, eCall0, eB, eMt, eMt0, iSrc, iRg1, iRg2, iEn, iZp, gN, gT, gsCons, gsNil, turnS, List.map_cons, List.map_nil, List.length_cons, List.length_nil, List.replicate, List.cons_append, List.nil_append, List.getElem?_cons_zero, List.getElem?_cons_succ, List.set_cons_zero, List.set_cons_succ, Nat.sub_self, Nat.reduceSub, Nat.reduceAdd, if_true, Bool.false_eq_true, if_false, ite_true, ite_false, List.cons.injEq, and_false, false_and, true_and, and_true, decide_false, decide_true, Bool.not_true, Bool.not_false, Bool.true_and, Bool.false_and, Bool.and_true, Bool.and_false, Bool.or_false, Bool.or_true, Bool.false_or, Bool.true_or, Nat.reduceEqDiff, reduceCtorEq, eSl, pSome, pNone, lcT, wipeE, fits_0, fits_1, fits_2, fits_3, fits_4, eIsi, show rd Sto.nil (cellsD l) = cellsD l from rfl, show tyB .tuple (cellsD l) = some true from rfl, e, z_all]
  simp
theorem p_check_cells {m : Gm} {l : List Nat} (hl : l.length ≤ 1000) (h : ∀ c ∈ l, c < m.n) (S : Sto) : f_check_cells [gD m, cellsD l] S = .ok .non S := by
  refine fnA_ok (S1 := Sto.nil) (by simp [nrfs, gm_nrf, cells_nrf]) ?_ rfl
  refine fn_nx (ρ := [some (gD m), some (cellsD l), none]) (st_iff (S' := Sto.nil) ?_ st_nx)
  have e : eLc [2] (iSrc (eVar 1)) (gN 2) tYs (eOp (oCmp .Lt) (eVar 2) (eOp oIx (eVar 0) (eC (.int 0)))) [some (gD m), some (cellsD l), none] Sto.nil = .ok (.lst ((l.map fun _ => true).map .bl)) Sto.nil := by
    rw [List.map_map]
    refine eLc_m (emb := nD) (xs := l) ?_ (fun c hc => ?_) (by omega)
    · simp only [fnS, env0, sSeq, sSet, sRet, sRetN, sIf, sE, sAsg, sPar, sNx, sPut, R.toS, R.bind, eVar, eC, eOp, eTup, eLst, eLstR, aCons, aNil, eIf, eAn, eOr, eNt, eIsi, toB, tNt, tAn, tOr_, tYs, eCall, eCall0, eB, eMt, eMt0, iSrc, iRg1, iRg2, iEn, iZp, gN, gT, gsCons, gsNil, turnS, List.map_cons, List.map_nil, List.length_cons, List.length_nil, List.replicate, List.cons_append, List.nil_append, List.getElem?_cons_zero, List.getElem?_cons_succ, List.set_cons_zero, List.set_cons_succ, Nat.sub_self, Nat.reduceSub, Nat.reduceAdd, if_true, Bool.false_eq_true, if_false, ite_true, ite_false, List.cons.injEq, and_false, false_and, true_and, and_true, decide_false, decide_true, Bool.not_true, Bool.not_false, Bool.true_and, Bool.false_and, Bool.and_true, Bool.and_false, Bool.or_false, Bool.or_true, Bool.false_or, Bool.true_or, Nat.reduceEqDiff, reduceCtorEq, eSl, pSome, pNone, lcT, wipeE, fits_0, fits_1, fits_2, fits_3, fits_4, cellsD, srcOf]
    · have := h c hc
      simp only [fnS, env0, sSeq, sSet, sRet, sRetN, sIf, sE, sAsg, sPar, sNx, sPut, R.toS, R.bind, eVar, eC, eOp, eTup, eLst, eLstR, aCons, aNil, eIf, eAn, eOr, eNt, eIsi, toB, tNt, tAn, tOr_, tYs, eCall, eCall0, eB, eMt, eMt0, iSrc, iRg1, iRg2, iEn, iZp, gN, gT, gsCons, gsNil, turnS, List.map_cons, List.map_nil, List.length_cons, List.length_nil, List.replicate, List.cons_append, List.nil_append, List.getElem?_cons_zero, List.getElem?_cons_succ, List.set_cons_zero, List.set_cons_succ, Nat.sub_self, Nat.reduceSub, Nat.reduceAdd, if_true, Bool.false_eq_true, if_false, ite_true, ite_false, List.cons.injEq, and_false, false_and, true_and, and_true, decide_false, decide_true, Bool.not_true, Bool.not_false, Bool.true_and, Bool.false_and, Bool.and_true, Bool.and_false, Bool.or_false, Bool.or_true, Bool.false_or, Bool.true_or, Nat.reduceEqDiff, reduceCtorEq, eSl, pSome, pNone, lcT, wipeE, fits_0, fits_1, fits_2, fits_3, fits_4, gD, gmD, z_t0, nD, z_lt, Function.comp, show ((c : Int) < m.n) by omega]
  show (tOr_ (tNt (toB (eCall 1 f_is_counts (aCons (eVar 1) aNil)))) (tNt (toB (eB oAll (aCons _ aNil))))) [some (gD m), some (cellsD l), none] Sto.nil = _
  revert e
  generalize eLc _ _ _ _ _ = E
  intro e
  simp only [fnS, env0, sSeq, sSet, sRet, sRetN, sIf, sE, sAsg, sPar, sNx, sPut, R.toS, R.bind, eVar, eC, eOp, eTup, eLst, eLstR, aCons, aNil, eIf, eAn, eOr, eNt, eIsi, toB, tNt, tAn, tOr_, tYs, eCall, eCall0, eB, eMt, eMt0, iSrc, iRg1, iRg2, iEn, iZp, gN, gT, gsCons, gsNil, turnS, List.map_cons, List.map_nil, List.length_cons, List.length_nil, List.replicate, List.cons_append, List.nil_append, List.getElem?_cons_zero, List.getElem?_cons_succ, List.set_cons_zero, List.set_cons_succ, Nat.sub_self, Nat.reduceSub, Nat.reduceAdd, if_true, Bool.false_eq_true, if_false, ite_true, ite_false, List.cons.injEq, and_false, false_and, true_and, and_true, decide_false, decide_true, Bool.not_true, Bool.not_false, Bool.true_and, Bool.false_and, Bool.and_true, Bool.and_false, Bool.or_false, Bool.or_true, Bool.false_or, Bool.true_or, Nat.reduceEqDiff, reduceCtorEq, eSl, pSome, pNone, lcT, wipeE, fits_0, fits_1, fits_2, fits_3, fits_4, p_is_counts l hl, e, z_all]
  simp
def setD (l : List Nat) : D := .dct (l.map nD) (l.map fun _ => .bl true)
theorem dhas_any (k : D) : ∀ ks : List D, dhas ks k = ks.any fun z => eqv z k
  | [] => rfl
  | x :: ks => by rw [List.any_cons, ← dhas_any k ks]; rfl
theorem dhas_nat (c : Nat) (l : List Nat) : dhas (l.map nD) (nD c) = l.contains c := by rw [dhas_any]; exact any_nat c l
theorem dcS_set {turn : D → Sto → R (Option (D × D))} {S : Sto} (ht : ∀ c : Nat, turn (nD c) S = .ok (some (nD c, .bl true)) S) : ∀ (l a : List Nat), (a ++ l).Nodup → (a ++ l).length ≤ 1000 → dcS turn (l.map nD) (a.map nD, a.map fun _ => .bl true) S = .ok ((a ++ l).map nD, (a ++ l).map fun _ => .bl true) S
  | [], a, _, _ => by rw [List.append_nil]; rfl
  | c :: l, a, h, hl => by
    have hc : a.contains c = false := by
      rw [Bool.eq_false_iff]
      intro hc
      have hc : c ∈ a := by simpa using hc
      exact (List.nodup_append.mp h).2.2 c hc c List.mem_cons_self rfl
    have ih := dcS_set ht l (a ++ [c]) (by simpa using h) (by simpa using hl)
    rw [List.map_cons]
    unfold dcS
    rw [ht c]
    have hp : dcPut (a.map nD, a.map fun _ => .bl true) (nD c) (.bl true) = some ((a ++ [c]).map nD, (a ++ [c]).map fun _ => .bl true) := by
      show (if fits ((a.map nD).length + 1) = true then some (dput (a.map nD) (a.map fun _ => .bl true) (nD c) (.bl true)) else none) = _
      rw [if_pos (fits_of (by rw [List.length_map]; rw [List.length_append] at hl; omega))]
      unfold dput
      rw [dhas_nat, hc, if_neg Bool.false_ne_true, List.map_append, List.map_append]
      rfl
    dsimp only
    rw [hp]
    dsimp only
    rw [ih, List.append_assoc]
    rfl
theorem dfind_set (c : Nat) : ∀ l : List Nat, (dfind (l.map nD) (l.map fun _ => .bl true) (nD c)).isSome = l.contains c
  | [] => rfl
  | x :: l => by
    rw [List.map_cons, List.map_cons, dfind, List.contains_cons, ← dfind_set c l]
    by_cases h : c = x
    · subst h
      rw [if_pos (by simp [nD, eqv])]
      simp
    · rw [if_neg (by simp [nD, eqv]; omega)]
      simp [h]
theorem z_inSet {c : Nat} {l : List Nat} {S : Sto} : oIn (nD c) (setD l) S = .ok (.bl (l.contains c)) S := by
  show (match (match keyOf (nD c) with | some _ => some (dfind (l.map nD) (l.map fun _ => .bl true) (nD c)).isSome | none => none) with | some r => R.ok (D.bl r) S | none => .bad) = _
  rw [dfind_set]
  rfl
theorem p_seams_between {m : Gm} {l1 l2 : List Nat} (hm : m.Ok) (h1 : ∀ c ∈ l1, c < m.n) (h2 : ∀ c ∈ l2, c < m.n) (n1 : l1.Nodup) (n2 : l2.Nodup) (k1 : l1.length ≤ 1000) (k2 : l2.length ≤ 1000) (S : Sto) : f_seams_between [gD m, cellsD l1, cellsD l2] S = .ok (seamsD (seamsOf m l1 l2)) S := by
  have hl := hm.sl
  have ed : ∀ (i : Nat) (l : List Nat) (ρ : Z.Env), l.Nodup → l.length ≤ 1000 → eVar i ρ Sto.nil = .ok (cellsD l) Sto.nil → ρ.length = 9 → eDc [8] (iSrc (eVar i)) (gN 8) tYs (eVar 8) (eC (.bl true)) ρ Sto.nil = .ok (setD l) Sto.nil := by
    intro i l ρ hn hk hi h9
    have hs : iSrc (eVar i) ρ Sto.nil = .ok (.st (l.map nD)) Sto.nil := by
      unfold iSrc
      rw [hi]
      rfl
    unfold eDc
    rw [hs]
    show (match dcS _ (l.map nD) ([], []) Sto.nil with | .ok a S' => R.ok (D.dct a.1 a.2) S' | _ => .bad) = _
    have z := dcS_set (turn := dcT (gN 8) tYs (eVar 8) (eC (.bl true)) (wipeE ρ [8])) (S := Sto.nil) (fun c => by
      have : ((wipeE ρ [8]).set 8 (some (nD c)))[8]? = some (some (nD c)) := by
        rw [List.getElem?_set_self]
        simp [wipeE, h9]
      simp only [dcT, gN, tYs, eVar, R.bind, this, eC, if_true]) l [] (by simpa using hn) (by simpa using hk)
    rw [List.nil_append] at z
    have z : dcS _ (l.map nD) ([], []) Sto.nil = _ := z
    rw [z]
    rfl
  have key := forS_inv (emb := cpD) (turn := turnS (gT 2 (gsCons (gN 6) (gsCons (gN 7) gsNil))) (sIf (tOr_ (tAn (toB (eOp oIn (eVar 6) (eVar 4))) (toB (eOp oIn (eVar 7) (eVar 5)))) (tAn (toB (eOp oIn (eVar 7) (eVar 4))) (toB (eOp oIn (eVar 6) (eVar 5))))) (sE (eMt tyL oAppend (eVar 3) (aCons (eTup (aCons (eVar 6) (aCons (eVar 7) aNil))) aNil))) sNx))
    (fun done ρ S => (∃ r6 r7, ρ = [some (gD m), some (cellsD l1), some (cellsD l2), some (.ref 0), some (setD l1), some (setD l2), r6, r7, none]) ∧ S = st1 ((done.filter (meets l1 l2)).map cpD)) m.sm [some (gD m), some (cellsD l1), some (cellsD l2), some (.ref 0), some (setD l1), some (setD l2), none, none, none] (st1 []) ?_ ⟨⟨none, none, rfl⟩, rfl⟩
  · obtain ⟨ρ', S', e, ⟨r6, r7, eρ⟩, eS⟩ := key
    refine fnA_ok (S1 := S') (by simp [nrfs, gm_nrf, cells_nrf]) ?_ (seams_nrf _)
    refine fn_rt ?_
    unfold m_seams_between
    refine sq_nx (st_e (d := .non) (S' := Sto.nil) (by simp only [fnS, env0, sSeq, sSet, sRet, sRetN, sIf, sE, sAsg, sPar, sNx, sPut, R.toS, R.bind, eVar, eC, eOp, eTup, eLst, eLstR, aCons, aNil, eIf, eAn, eOr, eNt, eIsi, toB, tNt, tAn, tOr_, tYs, eCall, eCall0, eB, eMt, eMt0, iSrc, iRg1, iRg2, iEn, iZp, gN, gT, gsCons, gsNil, turnS, List.map_cons, List.map_nil, List.length_cons, List.length_nil, List.replicate, List.cons_append, List.nil_append, List.getElem?_cons_zero, List.getElem?_cons_succ, List.set_cons_zero, List.set_cons_succ, Nat.sub_self, Nat.reduceSub, Nat.reduceAdd, if_true, Bool.false_eq_true, if_false, ite_true, ite_false, List.cons.injEq, and_false, false_and, true_and, and_true, decide_false, decide_true, Bool.not_true, Bool.not_false, Bool.true_and, Bool.false_and, Bool.and_true, Bool.and_false, Bool.or_false, Bool.or_true, Bool.false_or, Bool.true_or, Nat.reduceEqDiff, reduceCtorEq, eSl, pSome, pNone, lcT, wipeE, fits_0, fits_1, fits_2, fits_3, fits_4, p_check_cells k1 h1])) ?_
    refine sq_nx (st_e (d := .non) (S' := Sto.nil) (by simp only [fnS, env0, sSeq, sSet, sRet, sRetN, sIf, sE, sAsg, sPar, sNx, sPut, R.toS, R.bind, eVar, eC, eOp, eTup, eLst, eLstR, aCons, aNil, eIf, eAn, eOr, eNt, eIsi, toB, tNt, tAn, tOr_, tYs, eCall, eCall0, eB, eMt, eMt0, iSrc, iRg1, iRg2, iEn, iZp, gN, gT, gsCons, gsNil, turnS, List.map_cons, List.map_nil, List.length_cons, List.length_nil, List.replicate, List.cons_append, List.nil_append, List.getElem?_cons_zero, List.getElem?_cons_succ, List.set_cons_zero, List.set_cons_succ, Nat.sub_self, Nat.reduceSub, Nat.reduceAdd, if_true, Bool.false_eq_true, if_false, ite_true, ite_false, List.cons.injEq, and_false, false_and, true_and, and_true, decide_false, decide_true, Bool.not_true, Bool.not_false, Bool.true_and, Bool.false_and, Bool.and_true, Bool.and_false, Bool.or_false, Bool.or_true, Bool.false_or, Bool.true_or, Nat.reduceEqDiff, reduceCtorEq, eSl, pSome, pNone, lcT, wipeE, fits_0, fits_1, fits_2, fits_3, fits_4, p_check_cells k2 h2])) ?_
    refine sq_nx (ρ' := [some (gD m), some (cellsD l1), some (cellsD l2), none, some (setD l1), some (setD l2), none, none, none]) (S' := Sto.nil) ?_ ?_
    · have a1 := ed 1 l1 [some (gD m), some (cellsD l1), some (cellsD l2), none, none, none, none, none, none] n1 k1 rfl rfl
      have a2 := ed 2 l2 [some (gD m), some (cellsD l1), some (cellsD l2), none, none, none, none, none, none] n2 k2 rfl rfl
      show sPar 4 5 _ [some (gD m), some (cellsD l1), some (cellsD l2), none, none, none, none, none, none] Sto.nil = _
      revert a1 a2
      generalize eDc _ _ _ _ _ _ = E1
      generalize eDc _ _ _ _ _ _ = E2
      intro a1 a2
      simp only [fnS, env0, sSeq, sSet, sRet, sRetN, sIf, sE, sAsg, sPar, sNx, sPut, R.toS, R.bind, eVar, eC, eOp, eTup, eLst, eLstR, aCons, aNil, eIf, eAn, eOr, eNt, eIsi, toB, tNt, tAn, tOr_, tYs, eCall, eCall0, eB, eMt, eMt0, iSrc, iRg1, iRg2, iEn, iZp, gN, gT, gsCons, gsNil, turnS, List.map_cons, List.map_nil, List.length_cons, List.length_nil, List.replicate, List.cons_append, List.nil_append, List.getElem?_cons_zero, List.getElem?_cons_succ, List.set_cons_zero, List.set_cons_succ, Nat.sub_self, Nat.reduceSub, Nat.reduceAdd, if_true, Bool.false_eq_true, if_false, ite_true, ite_false, List.cons.injEq, and_false, false_and, true_and, and_true, decide_false, decide_true, Bool.not_true, Bool.not_false, Bool.true_and, Bool.false_and, Bool.and_true, Bool.and_false, Bool.or_false, Bool.or_true, Bool.false_or, Bool.true_or, Nat.reduceEqDiff, reduceCtorEq, eSl, pSome, pNone, lcT, wipeE, fits_0, fits_1, fits_2, fits_3, fits_4, a1, a2]
    refine sq_nx (st_set (d := .ref 0) (S' := st1 []) rfl) ?_
    refine sq_nx (st_for (ds := m.sm.map cpD) (by simp only [fnS, env0, sSeq, sSet, sRet, sRetN, sIf, sE, sAsg, sPar, sNx, sPut, R.toS, R.bind, eVar, eC, eOp, eTup, eLst, eLstR, aCons, aNil, eIf, eAn, eOr, eNt, eIsi, toB, tNt, tAn, tOr_, tYs, eCall, eCall0, eB, eMt, eMt0, iSrc, iRg1, iRg2, iEn, iZp, gN, gT, gsCons, gsNil, turnS, List.map_cons, List.map_nil, List.length_cons, List.length_nil, List.replicate, List.cons_append, List.nil_append, List.getElem?_cons_zero, List.getElem?_cons_succ, List.set_cons_zero, List.set_cons_succ, Nat.sub_self, Nat.reduceSub, Nat.reduceAdd, if_true, Bool.false_eq_true, if_false, ite_true, ite_false, List.cons.injEq, and_false, false_and, true_and, and_true, decide_false, decide_true, Bool.not_true, Bool.not_false, Bool.true_and, Bool.false_and, Bool.and_true, Bool.and_false, Bool.or_false, Bool.or_true, Bool.false_or, Bool.true_or, Nat.reduceEqDiff, reduceCtorEq, eSl, pSome, pNone, lcT, wipeE, fits_0, fits_1, fits_2, fits_3, fits_4, gD, gmD, z_t1, srcOf]) e) ?_
    refine st_ret ?_
    subst eρ eS
    rfl
  · rintro done x rest ρ S hw ⟨⟨r6, r7, rfl⟩, rfl⟩
    have hlen : (done.filter (meets l1 l2)).length ≤ 1000 := by
      have := List.length_filter_le (meets l1 l2) done
      have : (done ++ x :: rest).length ≤ 1000 := by rw [hw]; exact hl
      simp at this
      omega
    refine ⟨[some (gD m), some (cellsD l1), some (cellsD l2), some (.ref 0), some (setD l1), some (setD l2), some (nD x.1), some (nD x.2), none], st1 (((done ++ [x]).filter (meets l1 l2)).map cpD), ?_, ⟨_, _, rfl⟩, rfl⟩
    have e : ((done ++ [x]).filter (meets l1 l2)).map cpD = (done.filter (meets l1 l2)).map cpD ++ if meets l1 l2 x = true then [cpD x] else [] := by
      rw [List.filter_append, List.map_append]
      congr 1
      by_cases h : meets l1 l2 x = true
      · rw [if_pos h, List.filter_cons_of_pos h]; rfl
      · rw [if_neg h, List.filter_cons_of_neg h]; rfl
    have h0 : ((done.filter (meets l1 l2)).map cpD).length + 1 ≤ 16777216 := by rw [List.length_map]; omega
    rw [e, show meets l1 l2 x = ((l1.contains x.1 && l2.contains x.2) || (l1.contains x.2 && l2.contains x.1)) from rfl]
    generalize (done.filter (meets l1 l2)).map cpD = acc at h0 ⊢
    have e1 : oAppend (.ref 0) [.tup [nD x.1, nD x.2]] (st1 acc) = .ok .non (st1 (acc ++ [.tup [nD x.1, nD x.2]])) := app_1 (by simpa using h0)
    simp only [turnS, gT, cpD, rd, fnS, env0, sSeq, sSet, sRet, sRetN, sIf, sE, sAsg, sPar, sNx, sPut, R.toS, R.bind, eVar, eC, eOp, eTup, eLst, eLstR, aCons, aNil, eIf, eAn, eOr, eNt, eIsi, toB, tNt, tAn, tOr_, tYs, eCall, eCall0, eB, eMt, eMt0, iSrc, iRg1, iRg2, iEn, iZp, gN, gT, gsCons, gsNil, turnS, List.map_cons, List.map_nil, List.length_cons, List.length_nil, List.replicate, List.cons_append, List.nil_append, List.getElem?_cons_zero, List.getElem?_cons_succ, List.set_cons_zero, List.set_cons_succ, Nat.sub_self, Nat.reduceSub, Nat.reduceAdd, if_true, Bool.false_eq_true, if_false, ite_true, ite_false, List.cons.injEq, and_false, false_and, true_and, and_true, decide_false, decide_true, Bool.not_true, Bool.not_false, Bool.true_and, Bool.false_and, Bool.and_true, Bool.and_false, Bool.or_false, Bool.or_true, Bool.false_or, Bool.true_or, Nat.reduceEqDiff, reduceCtorEq, eSl, pSome, pNone, lcT, wipeE, fits_0, fits_1, fits_2, fits_3, fits_4, z_inSet, show ∀ l, tyL (.ref 0) (st1 l) = true from fun _ => rfl, show fits 2 = true from rfl]
    cases l1.contains x.1 <;> cases l2.contains x.2 <;> cases l1.contains x.2 <;> cases l2.contains x.1 <;> simp only [fnS, env0, sSeq, sSet, sRet, sRetN, sIf, sE, sAsg, sPar, sNx, sPut, R.toS, R.bind, eVar, eC, eOp, eTup, eLst, eLstR, aCons, aNil, eIf, eAn, eOr, eNt, eIsi, toB, tNt, tAn, tOr_, tYs, eCall, eCall0, eB, eMt, eMt0, iSrc, iRg1, iRg2, iEn, iZp, gN, gT, gsCons, gsNil, turnS, List.map_cons, List.map_nil, List.length_cons, List.length_nil, List.replicate, List.cons_append, List.nil_append, List.getElem?_cons_zero, List.getElem?_cons_succ, List.set_cons_zero, List.set_cons_succ, Nat.sub_self, Nat.reduceSub, Nat.reduceAdd, if_true, Bool.false_eq_true, if_false, ite_true, ite_false, List.cons.injEq, and_false, false_and, true_and, and_true, decide_false, decide_true, Bool.not_true, Bool.not_false, Bool.true_and, Bool.false_and, Bool.and_true, Bool.and_false, Bool.or_false, Bool.or_true, Bool.false_or, Bool.true_or, Nat.reduceEqDiff, reduceCtorEq, eSl, pSome, pNone, lcT, wipeE, fits_0, fits_1, fits_2, fits_3, fits_4, e1, List.append_nil, show ∀ l, tyL (.ref 0) (st1 l) = true from fun _ => rfl]
def stN (n : Nat) (f : Nat → List D) : Sto := ⟨n, (List.range n).reverse.map fun i => .lst (f i)⟩
def upd (f : Nat → List D) (c : Nat) (l : List D) : Nat → List D := fun i => if i = c then l else f i
theorem stN_get {n i : Nat} {f : Nat → List D} (h : i < n) : (stN n f).get i = some (.lst (f i)) := by
  unfold Sto.get stN
  dsimp only
  rw [if_pos h, List.getElem?_map, List.getElem?_reverse (by rw [List.length_range]; omega), List.length_range, List.getElem?_range (by omega)]
  show some (O.lst (f (n - 1 - (n - 1 - i)))) = _
  rw [show n - 1 - (n - 1 - i) = i by omega]
theorem stN_set {n c : Nat} {f : Nat → List D} {l : List D} (h : c < n) : (stN n f).set c (.lst l) = stN n (upd f c l) := by
  unfold Sto.set stN
  dsimp only
  rw [if_pos h]
  congr 1
  apply List.ext_getElem?
  intro j
  rw [List.getElem?_set]
  by_cases hj : j < n
  · rw [List.getElem?_map, List.getElem?_reverse (by rw [List.length_range]; exact hj), List.length_range, List.getElem?_range (by omega), List.getElem?_map, List.getElem?_reverse (by rw [List.length_range]; exact hj), List.length_range, List.getElem?_range (by omega)]
    simp only [List.length_map, List.length_reverse, List.length_range, Option.map_some, upd]
    by_cases he : n - 1 - c = j
    · rw [if_pos he, if_pos (by omega), if_pos (by omega)]
    · rw [if_neg he, if_neg (by omega)]
  · rw [List.getElem?_eq_none (by simp; omega), List.getElem?_eq_none (by simp; omega)]
    rw [if_neg (by omega)]
theorem stN_app {n c : Nat} {f : Nat → List D} {d : D} (h : c < n) (hl : (f c).length + 1 ≤ 16777216) : oAppend (.ref c) [d] (stN n f) = .ok .non (stN n (upd f c (f c ++ [d]))) := by
  have e : refL (.ref c) (stN n f) = some (c, f c) := by
    unfold refL
    dsimp only
    rw [stN_get h]
  unfold oAppend
  rw [e]
  dsimp only
  rw [if_pos (fits_of hl), stN_set h]
theorem mb_run {n : Nat} (x0 x2 x3 x5 x6 : Option D) (rs : List D) (hr : ∀ c, c < n → rs[c]? = some (.ref c)) (d : D) : ∀ (cs : List Nat) (f : Nat → List D) (x4 : Option D), (∀ c ∈ cs, c < n) → cs.Nodup → (∀ i, (f i).length + cs.length ≤ 1000) → ∃ x4', forS (turnS (gN 4) (sE (eMt tyL oAppend (eOp oIx (eVar 1) (eVar 4)) (aCons (eVar 2) aNil)))) (cs.map nD) [x0, some (.lst rs), some d, x3, x4, x5, x6] (stN n f) = .nx [x0, some (.lst rs), some d, x3, x4', x5, x6] (stN n fun i => f i ++ if cs.contains i = true then [d] else [])
  | [], f, x4, _, _, _ => ⟨x4, by
    show RS.nx _ (stN n f) = _
    congr 2
    funext i
    show f i = f i ++ []
    rw [List.append_nil]⟩
  | c :: cs, f, x4, h, hn, hf => by
    have hc := h c List.mem_cons_self
    obtain ⟨hn1, hn2⟩ := List.nodup_cons.mp hn
    · have happ : oAppend (.ref c) [d] (stN n f) = .ok .non (stN n (upd f c (f c ++ [d]))) := stN_app hc (by have := hf c; omega)
      obtain ⟨x4', e⟩ := mb_run x0 x2 x3 x5 x6 rs hr d cs (upd f c (f c ++ [d])) (some (nD c)) (fun i hi => h i (List.mem_cons_of_mem _ hi)) hn2 (fun i => by
        have h1 := hf i
        have h2 := hf c
        rw [List.length_cons] at h1 h2
        unfold upd
        split
        · rw [List.length_append, List.length_singleton]; omega
        · omega)
      refine ⟨x4', ?_⟩
      rw [List.map_cons]
      unfold forS
      have e1 : turnS (gN 4) (sE (eMt tyL oAppend (eOp oIx (eVar 1) (eVar 4)) (aCons (eVar 2) aNil))) (nD c) [x0, some (.lst rs), some d, x3, x4, x5, x6] (stN n f) = .nx [x0, some (.lst rs), some d, x3, some (nD c), x5, x6] (stN n (upd f c (f c ++ [d]))) := by
        have hix : ∀ S, oIx (.lst rs) (nD c) S = .ok (.ref c) S := fun S => z_ixL (by omega) (by simpa using hr c hc)
        have hty : tyL (.ref c) (stN n f) = true := by
          unfold tyL rd
          dsimp only
          rw [stN_get hc]
        simp only [turnS, fnS, env0, sSeq, sSet, sRet, sRetN, sIf, sE, sAsg, sPar, sNx, sPut, R.toS, R.bind, eVar, eC, eOp, eTup, eLst, eLstR, aCons, aNil, eIf, eAn, eOr, eNt, eIsi, toB, tNt, tAn, tOr_, tYs, eCall, eCall0, eB, eMt, eMt0, iSrc, iRg1, iRg2, iEn, iZp, gN, gT, gsCons, gsNil, turnS, List.map_cons, List.map_nil, List.length_cons, List.length_nil, List.replicate, List.cons_append, List.nil_append, List.getElem?_cons_zero, List.getElem?_cons_succ, List.set_cons_zero, List.set_cons_succ, Nat.sub_self, Nat.reduceSub, Nat.reduceAdd, if_true, Bool.false_eq_true, if_false, ite_true, ite_false, List.cons.injEq, and_false, false_and, true_and, and_true, decide_false, decide_true, Bool.not_true, Bool.not_false, Bool.true_and, Bool.false_and, Bool.and_true, Bool.and_false, Bool.or_false, Bool.or_true, Bool.false_or, Bool.true_or, Nat.reduceEqDiff, reduceCtorEq, eSl, pSome, pNone, lcT, wipeE, fits_0, fits_1, fits_2, fits_3, fits_4, hix, hty, happ]
      rw [e1]
      refine e.trans ?_
      congr 2
      funext i
      unfold upd
      rw [List.contains_cons]
      by_cases hi : i = c
      · subst hi
        rw [if_pos rfl, if_neg (by simpa using hn1), if_pos (by simp)]
        simp
      · rw [if_neg hi]
        congr 2
        simp [hi]
theorem mb_first {n : Nat} (hn : n ≤ 8) (x : List D) : eLc [5] (iRg1 (aCons (eOp oIx (eVar 0) (eC (.int 0))) aNil)) (gN 5) tYs (eLstR aNil) [some (.tup (nD n :: x)), none, none, none, none, none, none] Sto.nil = .ok (.lst ((List.range n).map .ref)) (stN n fun _ => []) := by
  have h : n = 0 ∨ n = 1 ∨ n = 2 ∨ n = 3 ∨ n = 4 ∨ n = 5 ∨ n = 6 ∨ n = 7 ∨ n = 8 := by omega
  have hs : iRg1 (aCons (eOp oIx (eVar 0) (eC (.int 0))) aNil) [some (.tup (nD n :: x)), none, none, none, none, none, none] Sto.nil = .ok (.st (irow 0 n)) Sto.nil := by
    simp only [fnS, env0, sSeq, sSet, sRet, sRetN, sIf, sE, sAsg, sPar, sNx, sPut, R.toS, R.bind, eVar, eC, eOp, eTup, eLst, eLstR, aCons, aNil, eIf, eAn, eOr, eNt, eIsi, toB, tNt, tAn, tOr_, tYs, eCall, eCall0, eB, eMt, eMt0, iSrc, iRg1, iRg2, iEn, iZp, gN, gT, gsCons, gsNil, turnS, List.map_cons, List.map_nil, List.length_cons, List.length_nil, List.replicate, List.cons_append, List.nil_append, List.getElem?_cons_zero, List.getElem?_cons_succ, List.set_cons_zero, List.set_cons_succ, Nat.sub_self, Nat.reduceSub, Nat.reduceAdd, if_true, Bool.false_eq_true, if_false, ite_true, ite_false, List.cons.injEq, and_false, false_and, true_and, and_true, decide_false, decide_true, Bool.not_true, Bool.not_false, Bool.true_and, Bool.false_and, Bool.and_true, Bool.and_false, Bool.or_false, Bool.or_true, Bool.false_or, Bool.true_or, Nat.reduceEqDiff, reduceCtorEq, eSl, pSome, pNone, lcT, wipeE, fits_0, fits_1, fits_2, fits_3, fits_4, z_t0, nD, small_nat (show n ≤ 16777216 by omega), Int.toNat_natCast]
  unfold eLc
  rw [hs]
  rcases h with rfl | rfl | rfl | rfl | rfl | rfl | rfl | rfl | rfl <;> rfl
def mbF (zs : List Zn) : Nat → List D := fun i => (rowL zs i).map .str
theorem p_memberships {m : Gm} (hm : m.Ok) (S : Sto) : f_memberships [gD m] S = .ok (.tup ((List.range m.n).map fun c => rowD m c)) S := by
  have hrs : ∀ c, c < m.n → ((List.range m.n).map D.ref)[c]? = some (.ref c) := fun c h => by
    rw [List.getElem?_map, List.getElem?_range h]; rfl
  obtain ⟨ρ', S', e, ⟨x2, x3, x4, eρ⟩, eS⟩ := forS_inv (emb := znD) (turn := turnS (gT 2 (gsCons (gN 2) (gsCons (gN 3) gsNil))) (sFor (iSrc (eVar 3)) (gN 4) (sE (eMt tyL oAppend (eOp oIx (eVar 1) (eVar 4)) (aCons (eVar 2) aNil)))))
    (fun done ρ S => (∃ x2 x3 x4, ρ = [some (gD m), some (.lst ((List.range m.n).map .ref)), x2, x3, x4, none, none]) ∧ S = stN m.n (mbF done)) m.zs [some (gD m), some (.lst ((List.range m.n).map .ref)), none, none, none, none, none] (stN m.n fun _ => []) (by
      rintro done z rest ρ S hw ⟨⟨x2, x3, x4, rfl⟩, rfl⟩
      have hz : z ∈ m.zs := by rw [← hw]; simp
      have hdl : done.length ≤ 3 := by have := hm.zl; rw [← hw, List.length_append] at this; omega
      obtain ⟨x4', e⟩ := mb_run (some (gD m)) none (some (cellsD z.2)) none none ((List.range m.n).map D.ref) hrs (.str z.1) z.2 (mbF done) x4 (hm.zc hz) (hm.zn hz) (fun i => by
        have h1 := hm.zz hz
        have h2 : (mbF done i).length ≤ done.length := by
          unfold mbF rowL
          rw [List.length_map, List.length_map]
          exact List.length_filter_le _ _
        omega)
      refine ⟨[some (gD m), some (.lst ((List.range m.n).map .ref)), some (.str z.1), some (cellsD z.2), x4', none, none], stN m.n (mbF (done ++ [z])), ?_, ⟨_, _, _, rfl⟩, rfl⟩
      show sFor (iSrc (eVar 3)) (gN 4) _ [some (gD m), some (.lst ((List.range m.n).map .ref)), some (.str z.1), some (cellsD z.2), x4, none, none] (stN m.n (mbF done)) = _
      refine (st_for rfl e).trans ?_
      congr 2
      funext i
      unfold mbF rowL
      rw [List.filter_append, List.map_append, List.map_append]
      congr 1
      by_cases hi : z.2.contains i = true
      · rw [if_pos hi]; simp only [List.filter, hi]; rfl
      · have hi : z.2.contains i = false := by simpa using hi
        rw [hi]; simp only [List.filter, hi]; rfl) ⟨⟨_, _, _, rfl⟩, rfl⟩
  subst eρ eS
  have hfin : eLc [6] (iSrc (eVar 1)) (gN 6) tYs (eB oTuple (aCons (eVar 6) aNil)) [some (gD m), some (.lst ((List.range m.n).map .ref)), x2, x3, x4, none, none] (stN m.n (mbF m.zs)) = .ok (.lst ((List.range m.n).map fun c => rowD m c)) (stN m.n (mbF m.zs)) := by
    refine eLc_m (emb := D.ref) (xs := List.range m.n) ?_ (fun c hc => ?_) (by rw [List.length_range]; have := hm.n; omega)
    · simp only [fnS, env0, sSeq, sSet, sRet, sRetN, sIf, sE, sAsg, sPar, sNx, sPut, R.toS, R.bind, eVar, eC, eOp, eTup, eLst, eLstR, aCons, aNil, eIf, eAn, eOr, eNt, eIsi, toB, tNt, tAn, tOr_, tYs, eCall, eCall0, eB, eMt, eMt0, iSrc, iRg1, iRg2, iEn, iZp, gN, gT, gsCons, gsNil, turnS, List.map_cons, List.map_nil, List.length_cons, List.length_nil, List.replicate, List.cons_append, List.nil_append, List.getElem?_cons_zero, List.getElem?_cons_succ, List.set_cons_zero, List.set_cons_succ, Nat.sub_self, Nat.reduceSub, Nat.reduceAdd, if_true, Bool.false_eq_true, if_false, ite_true, ite_false, List.cons.injEq, and_false, false_and, true_and, and_true, decide_false, decide_true, Bool.not_true, Bool.not_false, Bool.true_and, Bool.false_and, Bool.and_true, Bool.and_false, Bool.or_false, Bool.or_true, Bool.false_or, Bool.true_or, Nat.reduceEqDiff, reduceCtorEq, eSl, pSome, pNone, lcT, wipeE, fits_0, fits_1, fits_2, fits_3, fits_4, srcOf]
    · have hc := List.mem_range.mp hc
      have ht : oTuple [.ref c] (stN m.n (mbF m.zs)) = .ok (rowD m c) (stN m.n (mbF m.zs)) := by
        unfold oTuple rd
        dsimp only
        rw [stN_get hc]
        rfl
      simp only [fnS, env0, sSeq, sSet, sRet, sRetN, sIf, sE, sAsg, sPar, sNx, sPut, R.toS, R.bind, eVar, eC, eOp, eTup, eLst, eLstR, aCons, aNil, eIf, eAn, eOr, eNt, eIsi, toB, tNt, tAn, tOr_, tYs, eCall, eCall0, eB, eMt, eMt0, iSrc, iRg1, iRg2, iEn, iZp, gN, gT, gsCons, gsNil, turnS, List.map_cons, List.map_nil, List.length_cons, List.length_nil, List.replicate, List.cons_append, List.nil_append, List.getElem?_cons_zero, List.getElem?_cons_succ, List.set_cons_zero, List.set_cons_succ, Nat.sub_self, Nat.reduceSub, Nat.reduceAdd, if_true, Bool.false_eq_true, if_false, ite_true, ite_false, List.cons.injEq, and_false, false_and, true_and, and_true, decide_false, decide_true, Bool.not_true, Bool.not_false, Bool.true_and, Bool.false_and, Bool.and_true, Bool.and_false, Bool.or_false, Bool.or_true, Bool.false_or, Bool.true_or, Nat.reduceEqDiff, reduceCtorEq, eSl, pSome, pNone, lcT, wipeE, fits_0, fits_1, fits_2, fits_3, fits_4, ht]
  refine fnA_ok (S1 := stN m.n (mbF m.zs)) (by simp [nrfs, gm_nrf]) ?_ (by
    simp only [nrf]
    exact nrfs_map _ fun c _ => row_nrf m c)
  refine fn_rt ?_
  refine sq_nx (st_set (mb_first hm.n _)) ?_
  refine sq_nx (st_for (S := stN m.n fun _ => []) (ds := m.zs.map znD) (by simp only [fnS, env0, sSeq, sSet, sRet, sRetN, sIf, sE, sAsg, sPar, sNx, sPut, R.toS, R.bind, eVar, eC, eOp, eTup, eLst, eLstR, aCons, aNil, eIf, eAn, eOr, eNt, eIsi, toB, tNt, tAn, tOr_, tYs, eCall, eCall0, eB, eMt, eMt0, iSrc, iRg1, iRg2, iEn, iZp, gN, gT, gsCons, gsNil, turnS, List.map_cons, List.map_nil, List.length_cons, List.length_nil, List.replicate, List.cons_append, List.nil_append, List.getElem?_cons_zero, List.getElem?_cons_succ, List.set_cons_zero, List.set_cons_succ, Nat.sub_self, Nat.reduceSub, Nat.reduceAdd, if_true, Bool.false_eq_true, if_false, ite_true, ite_false, List.cons.injEq, and_false, false_and, true_and, and_true, decide_false, decide_true, Bool.not_true, Bool.not_false, Bool.true_and, Bool.false_and, Bool.and_true, Bool.and_false, Bool.or_false, Bool.or_true, Bool.false_or, Bool.true_or, Nat.reduceEqDiff, reduceCtorEq, eSl, pSome, pNone, lcT, wipeE, fits_0, fits_1, fits_2, fits_3, fits_4, gD, gmD, z_t2, srcOf]) e) (st_ret ?_)
  show (eB oTuple (aCons _ aNil)) _ _ = _
  revert hfin
  generalize eLc _ _ _ _ _ = E
  intro hfin
  simp only [fnS, env0, sSeq, sSet, sRet, sRetN, sIf, sE, sAsg, sPar, sNx, sPut, R.toS, R.bind, eVar, eC, eOp, eTup, eLst, eLstR, aCons, aNil, eIf, eAn, eOr, eNt, eIsi, toB, tNt, tAn, tOr_, tYs, eCall, eCall0, eB, eMt, eMt0, iSrc, iRg1, iRg2, iEn, iZp, gN, gT, gsCons, gsNil, turnS, List.map_cons, List.map_nil, List.length_cons, List.length_nil, List.replicate, List.cons_append, List.nil_append, List.getElem?_cons_zero, List.getElem?_cons_succ, List.set_cons_zero, List.set_cons_succ, Nat.sub_self, Nat.reduceSub, Nat.reduceAdd, if_true, Bool.false_eq_true, if_false, ite_true, ite_false, List.cons.injEq, and_false, false_and, true_and, and_true, decide_false, decide_true, Bool.not_true, Bool.not_false, Bool.true_and, Bool.false_and, Bool.and_true, Bool.and_false, Bool.or_false, Bool.or_true, Bool.false_or, Bool.true_or, Nat.reduceEqDiff, reduceCtorEq, eSl, pSome, pNone, lcT, wipeE, fits_0, fits_1, fits_2, fits_3, fits_4, hfin]
  rfl
end Zk16

namespace Zk16
open PySem PySem.Spec PyProof PyProof.Rows L2 Z
abbrev noth : Ex := ⟨"Nothing", []⟩
theorem st_eex {m : E} {ρ : Z.Env} {S S' : Sto} {x : Ex} (h : m ρ S = .ex x S') : sE m ρ S = .ex x ρ S' := by unfold sE; rw [h]; rfl
theorem isC_nat (c : Nat) : isC (nD c) = true := by simp [isC, nD]
/-! ### one cell -/
theorem p_check_cell {m : Gm} {c : Nat} (h : c < m.n) (S : Sto) : f_check_cell [gD m, nD c] S = .ok .non S := by
  refine fnA_ok (S1 := Sto.nil) (by simp [nrfs, gm_nrf, nD, nrf]) ?_ rfl
  refine fn_nx (ρ := [some (gD m), some (nD c)]) (st_iff (S' := Sto.nil) ?_ st_nx)
  have h2 : decide ((m.n : Int) ≤ c) = false := decide_eq_false (by omega)
  simp only [fnS, env0, sSeq, sSet, sRet, sRetN, sIf, sE, sAsg, sPar, sNx, sPut, R.toS, R.bind, eVar, eC, eOp, eTup, eLst, eLstR, aCons, aNil, eIf, eAn, eOr, eNt, eIsi, toB, tNt, tAn, tOr_, tYs, eCall, eCall0, eB, eMt, eMt0, iSrc, iRg1, iRg2, iEn, iZp, gN, gT, gsCons, gsNil, turnS, List.map_cons, List.map_nil, List.length_cons, List.length_nil, List.replicate, List.cons_append, List.nil_append, List.getElem?_cons_zero, List.getElem?_cons_succ, List.set_cons_zero, List.set_cons_succ, Nat.sub_self, Nat.reduceSub, Nat.reduceAdd, if_true, Bool.false_eq_true, if_false, ite_true, ite_false, List.cons.injEq, and_false, false_and, true_and, and_true, decide_false, decide_true, Bool.not_true, Bool.not_false, Bool.true_and, Bool.false_and, Bool.and_true, Bool.and_false, Bool.or_false, Bool.or_true, Bool.false_or, Bool.true_or, Nat.reduceEqDiff, reduceCtorEq, eSl, pSome, pNone, lcT, wipeE, fits_0, fits_1, fits_2, fits_3, fits_4, env0, p_is_count (show val (nD c) = true from rfl), isC_nat, gD, gmD, z_t0]
  simp only [nD, z_ge, h2, fnS, env0, sSeq, sSet, sRet, sRetN, sIf, sE, sAsg, sPar, sNx, sPut, R.toS, R.bind, eVar, eC, eOp, eTup, eLst, eLstR, aCons, aNil, eIf, eAn, eOr, eNt, eIsi, toB, tNt, tAn, tOr_, tYs, eCall, eCall0, eB, eMt, eMt0, iSrc, iRg1, iRg2, iEn, iZp, gN, gT, gsCons, gsNil, turnS, List.map_cons, List.map_nil, List.length_cons, List.length_nil, List.replicate, List.cons_append, List.nil_append, List.getElem?_cons_zero, List.getElem?_cons_succ, List.set_cons_zero, List.set_cons_succ, Nat.sub_self, Nat.reduceSub, Nat.reduceAdd, if_true, Bool.false_eq_true, if_false, ite_true, ite_false, List.cons.injEq, and_false, false_and, true_and, and_true, decide_false, decide_true, Bool.not_true, Bool.not_false, Bool.true_and, Bool.false_and, Bool.and_true, Bool.and_false, Bool.or_false, Bool.or_true, Bool.false_or, Bool.true_or, Nat.reduceEqDiff, reduceCtorEq, eSl, pSome, pNone, lcT, wipeE, fits_0, fits_1, fits_2, fits_3, fits_4]
theorem p_check_cell_x {m : Gm} {d : D} (hv : val d = true) (h : isC d = false ∨ d = nD m.n) (S : Sto) : f_check_cell [gD m, d] S = .ex noth S := by
  refine fnA_ex (S1 := Sto.nil) (by simp [nrfs, gm_nrf, val_nrf hv]) ?_
  refine fn_ex (ρ := [some (gD m), some d]) (st_ift (S' := Sto.nil) ?_ rfl)
  rcases h with h | rfl
  · simp only [fnS, env0, sSeq, sSet, sRet, sRetN, sIf, sE, sAsg, sPar, sNx, sPut, R.toS, R.bind, eVar, eC, eOp, eTup, eLst, eLstR, aCons, aNil, eIf, eAn, eOr, eNt, eIsi, toB, tNt, tAn, tOr_, tYs, eCall, eCall0, eB, eMt, eMt0, iSrc, iRg1, iRg2, iEn, iZp, gN, gT, gsCons, gsNil, turnS, List.map_cons, List.map_nil, List.length_cons, List.length_nil, List.replicate, List.cons_append, List.nil_append, List.getElem?_cons_zero, List.getElem?_cons_succ, List.set_cons_zero, List.set_cons_succ, Nat.sub_self, Nat.reduceSub, Nat.reduceAdd, if_true, Bool.false_eq_true, if_false, ite_true, ite_false, List.cons.injEq, and_false, false_and, true_and, and_true, decide_false, decide_true, Bool.not_true, Bool.not_false, Bool.true_and, Bool.false_and, Bool.and_true, Bool.and_false, Bool.or_false, Bool.or_true, Bool.false_or, Bool.true_or, Nat.reduceEqDiff, reduceCtorEq, eSl, pSome, pNone, lcT, wipeE, fits_0, fits_1, fits_2, fits_3, fits_4, env0, p_is_count hv, h]
  · simp only [fnS, env0, sSeq, sSet, sRet, sRetN, sIf, sE, sAsg, sPar, sNx, sPut, R.toS, R.bind, eVar, eC, eOp, eTup, eLst, eLstR, aCons, aNil, eIf, eAn, eOr, eNt, eIsi, toB, tNt, tAn, tOr_, tYs, eCall, eCall0, eB, eMt, eMt0, iSrc, iRg1, iRg2, iEn, iZp, gN, gT, gsCons, gsNil, turnS, List.map_cons, List.map_nil, List.length_cons, List.length_nil, List.replicate, List.cons_append, List.nil_append, List.getElem?_cons_zero, List.getElem?_cons_succ, List.set_cons_zero, List.set_cons_succ, Nat.sub_self, Nat.reduceSub, Nat.reduceAdd, if_true, Bool.false_eq_true, if_false, ite_true, ite_false, List.cons.injEq, and_false, false_and, true_and, and_true, decide_false, decide_true, Bool.not_true, Bool.not_false, Bool.true_and, Bool.false_and, Bool.and_true, Bool.and_false, Bool.or_false, Bool.or_true, Bool.false_or, Bool.true_or, Nat.reduceEqDiff, reduceCtorEq, eSl, pSome, pNone, lcT, wipeE, fits_0, fits_1, fits_2, fits_3, fits_4, env0, p_is_count (show val (nD m.n) = true from rfl), isC_nat, gD, gmD, z_t0]
    simp only [nD, z_ge, decide_eq_true (Int.le_refl _), fnS, env0, sSeq, sSet, sRet, sRetN, sIf, sE, sAsg, sPar, sNx, sPut, R.toS, R.bind, eVar, eC, eOp, eTup, eLst, eLstR, aCons, aNil, eIf, eAn, eOr, eNt, eIsi, toB, tNt, tAn, tOr_, tYs, eCall, eCall0, eB, eMt, eMt0, iSrc, iRg1, iRg2, iEn, iZp, gN, gT, gsCons, gsNil, turnS, List.map_cons, List.map_nil, List.length_cons, List.length_nil, List.replicate, List.cons_append, List.nil_append, List.getElem?_cons_zero, List.getElem?_cons_succ, List.set_cons_zero, List.set_cons_succ, Nat.sub_self, Nat.reduceSub, Nat.reduceAdd, if_true, Bool.false_eq_true, if_false, ite_true, ite_false, List.cons.injEq, and_false, false_and, true_and, and_true, decide_false, decide_true, Bool.not_true, Bool.not_false, Bool.true_and, Bool.false_and, Bool.and_true, Bool.and_false, Bool.or_false, Bool.or_true, Bool.false_or, Bool.true_or, Nat.reduceEqDiff, reduceCtorEq, eSl, pSome, pNone, lcT, wipeE, fits_0, fits_1, fits_2, fits_3, fits_4]
theorem p_membership {m : Gm} (hm : m.Ok) {c : Nat} (h : c < m.n) (S : Sto) : f_membership [gD m, nD c] S = .ok (rowD m c) S := by
  refine fnA_ok (S1 := Sto.nil) (by simp [nrfs, gm_nrf, nD, nrf]) ?_ (row_nrf m c)
  refine fn_rt (sq_nx (st_e (d := .non) (S' := Sto.nil) (by simp only [fnS, env0, sSeq, sSet, sRet, sRetN, sIf, sE, sAsg, sPar, sNx, sPut, R.toS, R.bind, eVar, eC, eOp, eTup, eLst, eLstR, aCons, aNil, eIf, eAn, eOr, eNt, eIsi, toB, tNt, tAn, tOr_, tYs, eCall, eCall0, eB, eMt, eMt0, iSrc, iRg1, iRg2, iEn, iZp, gN, gT, gsCons, gsNil, turnS, List.map_cons, List.map_nil, List.length_cons, List.length_nil, List.replicate, List.cons_append, List.nil_append, List.getElem?_cons_zero, List.getElem?_cons_succ, List.set_cons_zero, List.set_cons_succ, Nat.sub_self, Nat.reduceSub, Nat.reduceAdd, if_true, Bool.false_eq_true, if_false, ite_true, ite_false, List.cons.injEq, and_false, false_and, true_and, and_true, decide_false, decide_true, Bool.not_true, Bool.not_false, Bool.true_and, Bool.false_and, Bool.and_true, Bool.and_false, Bool.or_false, Bool.or_true, Bool.false_or, Bool.true_or, Nat.reduceEqDiff, reduceCtorEq, eSl, pSome, pNone, lcT, wipeE, fits_0, fits_1, fits_2, fits_3, fits_4, env0, p_check_cell h])) (st_ret ?_))
  have e := row_e hm c
  show (eB oTuple (aCons _ aNil)) [some (gD m), some (nD c), none, none] Sto.nil = _
  revert e
  generalize eLc _ _ _ _ _ = E
  intro e
  simp only [fnS, env0, sSeq, sSet, sRet, sRetN, sIf, sE, sAsg, sPar, sNx, sPut, R.toS, R.bind, eVar, eC, eOp, eTup, eLst, eLstR, aCons, aNil, eIf, eAn, eOr, eNt, eIsi, toB, tNt, tAn, tOr_, tYs, eCall, eCall0, eB, eMt, eMt0, iSrc, iRg1, iRg2, iEn, iZp, gN, gT, gsCons, gsNil, turnS, List.map_cons, List.map_nil, List.length_cons, List.length_nil, List.replicate, List.cons_append, List.nil_append, List.getElem?_cons_zero, List.getElem?_cons_succ, List.set_cons_zero, List.set_cons_succ, Nat.sub_self, Nat.reduceSub, Nat.reduceAdd, if_true, Bool.false_eq_true, if_false, ite_true, ite_false, List.cons.injEq, and_false, false_and, true_and, and_true, decide_false, decide_true, Bool.not_true, Bool.not_false, Bool.true_and, Bool.false_and, Bool.and_true, Bool.and_false, Bool.or_false, Bool.or_true, Bool.false_or, Bool.true_or, Nat.reduceEqDiff, reduceCtorEq, eSl, pSome, pNone, lcT, wipeE, fits_0, fits_1, fits_2, fits_3, fits_4, e]
  rfl
theorem p_membership_x {m : Gm} {d : D} (hv : val d = true) (h : isC d = false ∨ d = nD m.n) (S : Sto) : f_membership [gD m, d] S = .ex noth S := by
  refine fnA_ex (S1 := Sto.nil) (by simp [nrfs, gm_nrf, val_nrf hv]) ?_
  exact fn_ex (ρ := [some (gD m), some d, none, none]) (sq_ex (st_eex (S' := Sto.nil) (by simp only [fnS, env0, sSeq, sSet, sRet, sRetN, sIf, sE, sAsg, sPar, sNx, sPut, R.toS, R.bind, eVar, eC, eOp, eTup, eLst, eLstR, aCons, aNil, eIf, eAn, eOr, eNt, eIsi, toB, tNt, tAn, tOr_, tYs, eCall, eCall0, eB, eMt, eMt0, iSrc, iRg1, iRg2, iEn, iZp, gN, gT, gsCons, gsNil, turnS, List.map_cons, List.map_nil, List.length_cons, List.length_nil, List.replicate, List.cons_append, List.nil_append, List.getElem?_cons_zero, List.getElem?_cons_succ, List.set_cons_zero, List.set_cons_succ, Nat.sub_self, Nat.reduceSub, Nat.reduceAdd, if_true, Bool.false_eq_true, if_false, ite_true, ite_false, List.cons.injEq, and_false, false_and, true_and, and_true, decide_false, decide_true, Bool.not_true, Bool.not_false, Bool.true_and, Bool.false_and, Bool.and_true, Bool.and_false, Bool.or_false, Bool.or_true, Bool.false_or, Bool.true_or, Nat.reduceEqDiff, reduceCtorEq, eSl, pSome, pNone, lcT, wipeE, fits_0, fits_1, fits_2, fits_3, fits_4, env0, p_check_cell_x hv h])))
/-! ### cells beside one -/
def nearL (m : Gm) (c : Nat) : List Nat := ((m.sm.filter fun p => decide ((p.1 : Int) = c)).map (·.2)) ++ ((m.sm.filter fun p => decide ((p.2 : Int) = c)).map (·.1))
def nearD (m : Gm) (c : Nat) : D := .tup (srtE ((nearL m c).map nD))
theorem near_len {m : Gm} (hm : m.Ok) (c : Nat) : (nearL m c).length ≤ 56 := by
  have := hm.sl28
  unfold nearL
  rw [List.length_append, List.length_map, List.length_map]
  have a := List.length_filter_le (fun p => decide ((p.1 : Int) = (c : Int))) m.sm
  have b := List.length_filter_le (fun p => decide ((p.2 : Int) = (c : Int))) m.sm
  omega
theorem near_lt {m : Gm} (hm : m.Ok) {c d : Nat} (h : d ∈ nearL m c) : d < m.n := by
  rcases List.mem_append.mp h with h | h
  · obtain ⟨p, hp, rfl⟩ := List.mem_map.mp h
    exact (hm.sm p (List.mem_filter.mp hp).1).2
  · obtain ⟨p, hp, rfl⟩ := List.mem_map.mp h
    have := hm.sm p (List.mem_filter.mp hp).1
    omega
theorem near_sm {m : Gm} (hm : m.Ok) (c : Nat) : Sm 2 1181 (nearD m c) := Sm.tup (L := 56) (w := 19) (fun d hd => by
  obtain ⟨e, he, rfl⟩ := srtE_nat hd
  have := near_lt hm he
  have := hm.n
  exact Sm.nat (by omega)) (by rw [srtE_len]; exact near_len hm c)
theorem p_near {m : Gm} (hm : m.Ok) (c : Nat) (S : Sto) : f_law_near [gD m, nD c] S = .ok (nearD m c) S := by
  refine fnA_ok (S1 := Sto.nil) (by simp [nrfs, gm_nrf, nD, nrf]) ?_ (vl_1 (near_sm hm c).1)
  refine fn_rt (st_ret ?_)
  have hl := hm.sl
  have e1 : eLc [2, 3] (iSrc (eOp oIx (eVar 0) (eC (.int 1)))) (gT 2 (gsCons (gN 2) (gsCons (gN 3) gsNil))) (toB (eOp oEq (eVar 2) (eVar 1))) (eVar 3) [some (gD m), some (nD c), none, none] Sto.nil = .ok (.lst ((m.sm.filter fun p => decide ((p.1 : Int) = c)).map fun p => nD p.2)) Sto.nil := by
    refine eLc_f (emb := cpD) (out := fun p => nD p.2) _ (xs := m.sm) ?_ (fun p hp => ?_) (by omega)
    · simp only [fnS, env0, sSeq, sSet, sRet, sRetN, sIf, sE, sAsg, sPar, sNx, sPut, R.toS, R.bind, eVar, eC, eOp, eTup, eLst, eLstR, aCons, aNil, eIf, eAn, eOr, eNt, eIsi, toB, tNt, tAn, tOr_, tYs, eCall, eCall0, eB, eMt, eMt0, iSrc, iRg1, iRg2, iEn, iZp, gN, gT, gsCons, gsNil, turnS, List.map_cons, List.map_nil, List.length_cons, List.length_nil, List.replicate, List.cons_append, List.nil_append, List.getElem?_cons_zero, List.getElem?_cons_succ, List.set_cons_zero, List.set_cons_succ, Nat.sub_self, Nat.reduceSub, Nat.reduceAdd, if_true, Bool.false_eq_true, if_false, ite_true, ite_false, List.cons.injEq, and_false, false_and, true_and, and_true, decide_false, decide_true, Bool.not_true, Bool.not_false, Bool.true_and, Bool.false_and, Bool.and_true, Bool.and_false, Bool.or_false, Bool.or_true, Bool.false_or, Bool.true_or, Nat.reduceEqDiff, reduceCtorEq, eSl, pSome, pNone, lcT, wipeE, fits_0, fits_1, fits_2, fits_3, fits_4, gD, gmD, z_t1, srcOf]
    · simp only [fnS, env0, sSeq, sSet, sRet, sRetN, sIf, sE, sAsg, sPar, sNx, sPut, R.toS, R.bind, eVar, eC, eOp, eTup, eLst, eLstR, aCons, aNil, eIf, eAn, eOr, eNt, eIsi, toB, tNt, tAn, tOr_, tYs, eCall, eCall0, eB, eMt, eMt0, iSrc, iRg1, iRg2, iEn, iZp, gN, gT, gsCons, gsNil, turnS, List.map_cons, List.map_nil, List.length_cons, List.length_nil, List.replicate, List.cons_append, List.nil_append, List.getElem?_cons_zero, List.getElem?_cons_succ, List.set_cons_zero, List.set_cons_succ, Nat.sub_self, Nat.reduceSub, Nat.reduceAdd, if_true, Bool.false_eq_true, if_false, ite_true, ite_false, List.cons.injEq, and_false, false_and, true_and, and_true, decide_false, decide_true, Bool.not_true, Bool.not_false, Bool.true_and, Bool.false_and, Bool.and_true, Bool.and_false, Bool.or_false, Bool.or_true, Bool.false_or, Bool.true_or, Nat.reduceEqDiff, reduceCtorEq, eSl, pSome, pNone, lcT, wipeE, fits_0, fits_1, fits_2, fits_3, fits_4, cpD, gT, rd, nD, z_eqi]
      exact ite_ok
  have e2 : eLc [2, 3] (iSrc (eOp oIx (eVar 0) (eC (.int 1)))) (gT 2 (gsCons (gN 2) (gsCons (gN 3) gsNil))) (toB (eOp oEq (eVar 3) (eVar 1))) (eVar 2) [some (gD m), some (nD c), none, none] Sto.nil = .ok (.lst ((m.sm.filter fun p => decide ((p.2 : Int) = c)).map fun p => nD p.1)) Sto.nil := by
    refine eLc_f (emb := cpD) (out := fun p => nD p.1) _ (xs := m.sm) ?_ (fun p hp => ?_) (by omega)
    · simp only [fnS, env0, sSeq, sSet, sRet, sRetN, sIf, sE, sAsg, sPar, sNx, sPut, R.toS, R.bind, eVar, eC, eOp, eTup, eLst, eLstR, aCons, aNil, eIf, eAn, eOr, eNt, eIsi, toB, tNt, tAn, tOr_, tYs, eCall, eCall0, eB, eMt, eMt0, iSrc, iRg1, iRg2, iEn, iZp, gN, gT, gsCons, gsNil, turnS, List.map_cons, List.map_nil, List.length_cons, List.length_nil, List.replicate, List.cons_append, List.nil_append, List.getElem?_cons_zero, List.getElem?_cons_succ, List.set_cons_zero, List.set_cons_succ, Nat.sub_self, Nat.reduceSub, Nat.reduceAdd, if_true, Bool.false_eq_true, if_false, ite_true, ite_false, List.cons.injEq, and_false, false_and, true_and, and_true, decide_false, decide_true, Bool.not_true, Bool.not_false, Bool.true_and, Bool.false_and, Bool.and_true, Bool.and_false, Bool.or_false, Bool.or_true, Bool.false_or, Bool.true_or, Nat.reduceEqDiff, reduceCtorEq, eSl, pSome, pNone, lcT, wipeE, fits_0, fits_1, fits_2, fits_3, fits_4, gD, gmD, z_t1, srcOf]
    · simp only [fnS, env0, sSeq, sSet, sRet, sRetN, sIf, sE, sAsg, sPar, sNx, sPut, R.toS, R.bind, eVar, eC, eOp, eTup, eLst, eLstR, aCons, aNil, eIf, eAn, eOr, eNt, eIsi, toB, tNt, tAn, tOr_, tYs, eCall, eCall0, eB, eMt, eMt0, iSrc, iRg1, iRg2, iEn, iZp, gN, gT, gsCons, gsNil, turnS, List.map_cons, List.map_nil, List.length_cons, List.length_nil, List.replicate, List.cons_append, List.nil_append, List.getElem?_cons_zero, List.getElem?_cons_succ, List.set_cons_zero, List.set_cons_succ, Nat.sub_self, Nat.reduceSub, Nat.reduceAdd, if_true, Bool.false_eq_true, if_false, ite_true, ite_false, List.cons.injEq, and_false, false_and, true_and, and_true, decide_false, decide_true, Bool.not_true, Bool.not_false, Bool.true_and, Bool.false_and, Bool.and_true, Bool.and_false, Bool.or_false, Bool.or_true, Bool.false_or, Bool.true_or, Nat.reduceEqDiff, reduceCtorEq, eSl, pSome, pNone, lcT, wipeE, fits_0, fits_1, fits_2, fits_3, fits_4, cpD, gT, rd, nD, z_eqi]
      exact ite_ok
  have ha : ((m.sm.filter fun p => decide ((p.1 : Int) = c)).map fun p => nD p.2) ++ ((m.sm.filter fun p => decide ((p.2 : Int) = c)).map fun p => nD p.1) = (nearL m c).map nD := by unfold nearL; rw [List.map_append, List.map_map, List.map_map]; rfl
  have hn := near_len hm c
  have hadd : ∀ S, oAdd (.lst ((m.sm.filter fun p => decide ((p.1 : Int) = c)).map fun p => nD p.2)) (.lst ((m.sm.filter fun p => decide ((p.2 : Int) = c)).map fun p => nD p.1)) S = .ok (.lst ((nearL m c).map nD)) S := fun S => by
    rw [← ha]
    refine z_addL ?_
    rw [← List.length_append, ha, List.length_map]
    omega
  show (eB oTuple (aCons (eB oSorted (aCons (eOp oAdd _ _) aNil)) aNil)) [some (gD m), some (nD c), none, none] Sto.nil = _
  revert e1 e2
  generalize eLc _ _ _ (toB (eOp oEq (eVar 2) (eVar 1))) _ = E1
  generalize eLc _ _ _ (toB (eOp oEq (eVar 3) (eVar 1))) _ = E2
  intro e1 e2
  simp only [fnS, env0, sSeq, sSet, sRet, sRetN, sIf, sE, sAsg, sPar, sNx, sPut, R.toS, R.bind, eVar, eC, eOp, eTup, eLst, eLstR, aCons, aNil, eIf, eAn, eOr, eNt, eIsi, toB, tNt, tAn, tOr_, tYs, eCall, eCall0, eB, eMt, eMt0, iSrc, iRg1, iRg2, iEn, iZp, gN, gT, gsCons, gsNil, turnS, List.map_cons, List.map_nil, List.length_cons, List.length_nil, List.replicate, List.cons_append, List.nil_append, List.getElem?_cons_zero, List.getElem?_cons_succ, List.set_cons_zero, List.set_cons_succ, Nat.sub_self, Nat.reduceSub, Nat.reduceAdd, if_true, Bool.false_eq_true, if_false, ite_true, ite_false, List.cons.injEq, and_false, false_and, true_and, and_true, decide_false, decide_true, Bool.not_true, Bool.not_false, Bool.true_and, Bool.false_and, Bool.and_true, Bool.and_false, Bool.or_false, Bool.or_true, Bool.false_or, Bool.true_or, Nat.reduceEqDiff, reduceCtorEq, eSl, pSome, pNone, lcT, wipeE, fits_0, fits_1, fits_2, fits_3, fits_4, e1, e2, hadd, sorted_nat (show (nearL m c).length ≤ 16777216 by omega)]
  rfl
theorem p_beside {m : Gm} (hm : m.Ok) {c : Nat} (h : c < m.n) (S : Sto) : f_beside [gD m, nD c] S = .ok (nearD m c) S := by
  refine fnA_ok (S1 := Sto.nil) (by simp [nrfs, gm_nrf, nD, nrf]) ?_ (vl_1 (near_sm hm c).1)
  refine fn_rt (sq_nx (st_e (d := .non) (S' := Sto.nil) (by simp only [fnS, env0, sSeq, sSet, sRet, sRetN, sIf, sE, sAsg, sPar, sNx, sPut, R.toS, R.bind, eVar, eC, eOp, eTup, eLst, eLstR, aCons, aNil, eIf, eAn, eOr, eNt, eIsi, toB, tNt, tAn, tOr_, tYs, eCall, eCall0, eB, eMt, eMt0, iSrc, iRg1, iRg2, iEn, iZp, gN, gT, gsCons, gsNil, turnS, List.map_cons, List.map_nil, List.length_cons, List.length_nil, List.replicate, List.cons_append, List.nil_append, List.getElem?_cons_zero, List.getElem?_cons_succ, List.set_cons_zero, List.set_cons_succ, Nat.sub_self, Nat.reduceSub, Nat.reduceAdd, if_true, Bool.false_eq_true, if_false, ite_true, ite_false, List.cons.injEq, and_false, false_and, true_and, and_true, decide_false, decide_true, Bool.not_true, Bool.not_false, Bool.true_and, Bool.false_and, Bool.and_true, Bool.and_false, Bool.or_false, Bool.or_true, Bool.false_or, Bool.true_or, Nat.reduceEqDiff, reduceCtorEq, eSl, pSome, pNone, lcT, wipeE, fits_0, fits_1, fits_2, fits_3, fits_4, env0, p_check_cell h])) ?_)
  have hl := hm.sl
  have e1 : eLc [3, 4] (iSrc (eOp oIx (eVar 0) (eC (.int 1)))) (gT 2 (gsCons (gN 3) (gsCons (gN 4) gsNil))) (toB (eOp oEq (eVar 3) (eVar 1))) (eVar 4) [some (gD m), some (nD c), none, none, none] Sto.nil = .ok (.lst ((m.sm.filter fun p => decide ((p.1 : Int) = c)).map fun p => nD p.2)) Sto.nil := by
    refine eLc_f (emb := cpD) (out := fun p => nD p.2) _ (xs := m.sm) ?_ (fun p hp => ?_) (by omega)
    · simp only [fnS, env0, sSeq, sSet, sRet, sRetN, sIf, sE, sAsg, sPar, sNx, sPut, R.toS, R.bind, eVar, eC, eOp, eTup, eLst, eLstR, aCons, aNil, eIf, eAn, eOr, eNt, eIsi, toB, tNt, tAn, tOr_, tYs, eCall, eCall0, eB, eMt, eMt0, iSrc, iRg1, iRg2, iEn, iZp, gN, gT, gsCons, gsNil, turnS, List.map_cons, List.map_nil, List.length_cons, List.length_nil, List.replicate, List.cons_append, List.nil_append, List.getElem?_cons_zero, List.getElem?_cons_succ, List.set_cons_zero, List.set_cons_succ, Nat.sub_self, Nat.reduceSub, Nat.reduceAdd, if_true, Bool.false_eq_true, if_false, ite_true, ite_false, List.cons.injEq, and_false, false_and, true_and, and_true, decide_false, decide_true, Bool.not_true, Bool.not_false, Bool.true_and, Bool.false_and, Bool.and_true, Bool.and_false, Bool.or_false, Bool.or_true, Bool.false_or, Bool.true_or, Nat.reduceEqDiff, reduceCtorEq, eSl, pSome, pNone, lcT, wipeE, fits_0, fits_1, fits_2, fits_3, fits_4, gD, gmD, z_t1, srcOf]
    · simp only [fnS, env0, sSeq, sSet, sRet, sRetN, sIf, sE, sAsg, sPar, sNx, sPut, R.toS, R.bind, eVar, eC, eOp, eTup, eLst, eLstR, aCons, aNil, eIf, eAn, eOr, eNt, eIsi, toB, tNt, tAn, tOr_, tYs, eCall, eCall0, eB, eMt, eMt0, iSrc, iRg1, iRg2, iEn, iZp, gN, gT, gsCons, gsNil, turnS, List.map_cons, List.map_nil, List.length_cons, List.length_nil, List.replicate, List.cons_append, List.nil_append, List.getElem?_cons_zero, List.getElem?_cons_succ, List.set_cons_zero, List.set_cons_succ, Nat.sub_self, Nat.reduceSub, Nat.reduceAdd, if_true, Bool.false_eq_true, if_false, ite_true, ite_false, List.cons.injEq, and_false, false_and, true_and, and_true, decide_false, decide_true, Bool.not_true, Bool.not_false, Bool.true_and, Bool.false_and, Bool.and_true, Bool.and_false, Bool.or_false, Bool.or_true, Bool.false_or, Bool.true_or, Nat.reduceEqDiff, reduceCtorEq, eSl, pSome, pNone, lcT, wipeE, fits_0, fits_1, fits_2, fits_3, fits_4, cpD, gT, rd, nD, z_eqi]
      exact ite_ok
  have e2 : eLc [3, 4] (iSrc (eOp oIx (eVar 0) (eC (.int 1)))) (gT 2 (gsCons (gN 3) (gsCons (gN 4) gsNil))) (toB (eOp oEq (eVar 4) (eVar 1))) (eVar 3) [some (gD m), some (nD c), none, none, none] Sto.nil = .ok (.lst ((m.sm.filter fun p => decide ((p.2 : Int) = c)).map fun p => nD p.1)) Sto.nil := by
    refine eLc_f (emb := cpD) (out := fun p => nD p.1) _ (xs := m.sm) ?_ (fun p hp => ?_) (by omega)
    · simp only [fnS, env0, sSeq, sSet, sRet, sRetN, sIf, sE, sAsg, sPar, sNx, sPut, R.toS, R.bind, eVar, eC, eOp, eTup, eLst, eLstR, aCons, aNil, eIf, eAn, eOr, eNt, eIsi, toB, tNt, tAn, tOr_, tYs, eCall, eCall0, eB, eMt, eMt0, iSrc, iRg1, iRg2, iEn, iZp, gN, gT, gsCons, gsNil, turnS, List.map_cons, List.map_nil, List.length_cons, List.length_nil, List.replicate, List.cons_append, List.nil_append, List.getElem?_cons_zero, List.getElem?_cons_succ, List.set_cons_zero, List.set_cons_succ, Nat.sub_self, Nat.reduceSub, Nat.reduceAdd, if_true, Bool.false_eq_true, if_false, ite_true, ite_false, List.cons.injEq, and_false, false_and, true_and, and_true, decide_false, decide_true, Bool.not_true, Bool.not_false, Bool.true_and, Bool.false_and, Bool.and_true, Bool.and_false, Bool.or_false, Bool.or_true, Bool.false_or, Bool.true_or, Nat.reduceEqDiff, reduceCtorEq, eSl, pSome, pNone, lcT, wipeE, fits_0, fits_1, fits_2, fits_3, fits_4, gD, gmD, z_t1, srcOf]
    · simp only [fnS, env0, sSeq, sSet, sRet, sRetN, sIf, sE, sAsg, sPar, sNx, sPut, R.toS, R.bind, eVar, eC, eOp, eTup, eLst, eLstR, aCons, aNil, eIf, eAn, eOr, eNt, eIsi, toB, tNt, tAn, tOr_, tYs, eCall, eCall0, eB, eMt, eMt0, iSrc, iRg1, iRg2, iEn, iZp, gN, gT, gsCons, gsNil, turnS, List.map_cons, List.map_nil, List.length_cons, List.length_nil, List.replicate, List.cons_append, List.nil_append, List.getElem?_cons_zero, List.getElem?_cons_succ, List.set_cons_zero, List.set_cons_succ, Nat.sub_self, Nat.reduceSub, Nat.reduceAdd, if_true, Bool.false_eq_true, if_false, ite_true, ite_false, List.cons.injEq, and_false, false_and, true_and, and_true, decide_false, decide_true, Bool.not_true, Bool.not_false, Bool.true_and, Bool.false_and, Bool.and_true, Bool.and_false, Bool.or_false, Bool.or_true, Bool.false_or, Bool.true_or, Nat.reduceEqDiff, reduceCtorEq, eSl, pSome, pNone, lcT, wipeE, fits_0, fits_1, fits_2, fits_3, fits_4, cpD, gT, rd, nD, z_eqi]
      exact ite_ok
  have ha : ((m.sm.filter fun p => decide ((p.1 : Int) = c)).map fun p => nD p.2) ++ ((m.sm.filter fun p => decide ((p.2 : Int) = c)).map fun p => nD p.1) = (nearL m c).map nD := by unfold nearL; rw [List.map_append, List.map_map, List.map_map]; rfl
  have hn := near_len hm c
  have hadd : ∀ S, oAdd (.lst ((m.sm.filter fun p => decide ((p.1 : Int) = c)).map fun p => nD p.2)) (.lst ((m.sm.filter fun p => decide ((p.2 : Int) = c)).map fun p => nD p.1)) S = .ok (.lst ((nearL m c).map nD)) S := fun S => by
    rw [← ha]
    refine z_addL ?_
    rw [← List.length_append, ha, List.length_map]
    omega
  refine sq_nx (st_set (d := .lst ((nearL m c).map nD)) (S' := Sto.nil) ?_) (st_ret ?_)
  · show (eOp oAdd _ _) [some (gD m), some (nD c), none, none, none] Sto.nil = _
    revert e1 e2
    generalize eLc _ _ _ (toB (eOp oEq (eVar 3) (eVar 1))) _ = E1
    generalize eLc _ _ _ (toB (eOp oEq (eVar 4) (eVar 1))) _ = E2
    intro e1 e2
    simp only [fnS, env0, sSeq, sSet, sRet, sRetN, sIf, sE, sAsg, sPar, sNx, sPut, R.toS, R.bind, eVar, eC, eOp, eTup, eLst, eLstR, aCons, aNil, eIf, eAn, eOr, eNt, eIsi, toB, tNt, tAn, tOr_, tYs, eCall, eCall0, eB, eMt, eMt0, iSrc, iRg1, iRg2, iEn, iZp, gN, gT, gsCons, gsNil, turnS, List.map_cons, List.map_nil, List.length_cons, List.length_nil, List.replicate, List.cons_append, List.nil_append, List.getElem?_cons_zero, List.getElem?_cons_succ, List.set_cons_zero, List.set_cons_succ, Nat.sub_self, Nat.reduceSub, Nat.reduceAdd, if_true, Bool.false_eq_true, if_false, ite_true, ite_false, List.cons.injEq, and_false, false_and, true_and, and_true, decide_false, decide_true, Bool.not_true, Bool.not_false, Bool.true_and, Bool.false_and, Bool.and_true, Bool.and_false, Bool.or_false, Bool.or_true, Bool.false_or, Bool.true_or, Nat.reduceEqDiff, reduceCtorEq, eSl, pSome, pNone, lcT, wipeE, fits_0, fits_1, fits_2, fits_3, fits_4, e1, e2, hadd]
  · simp only [fnS, env0, sSeq, sSet, sRet, sRetN, sIf, sE, sAsg, sPar, sNx, sPut, R.toS, R.bind, eVar, eC, eOp, eTup, eLst, eLstR, aCons, aNil, eIf, eAn, eOr, eNt, eIsi, toB, tNt, tAn, tOr_, tYs, eCall, eCall0, eB, eMt, eMt0, iSrc, iRg1, iRg2, iEn, iZp, gN, gT, gsCons, gsNil, turnS, List.map_cons, List.map_nil, List.length_cons, List.length_nil, List.replicate, List.cons_append, List.nil_append, List.getElem?_cons_zero, List.getElem?_cons_succ, List.set_cons_zero, List.set_cons_succ, Nat.sub_self, Nat.reduceSub, Nat.reduceAdd, if_true, Bool.false_eq_true, if_false, ite_true, ite_false, List.cons.injEq, and_false, false_and, true_and, and_true, decide_false, decide_true, Bool.not_true, Bool.not_false, Bool.true_and, Bool.false_and, Bool.and_true, Bool.and_false, Bool.or_false, Bool.or_true, Bool.false_or, Bool.true_or, Nat.reduceEqDiff, reduceCtorEq, eSl, pSome, pNone, lcT, wipeE, fits_0, fits_1, fits_2, fits_3, fits_4, env0, sorted_nat (show (nearL m c).length ≤ 16777216 by omega)]
    rfl
/-! ### the cells with a membership -/
theorem numb_row (f : Nat → D) : ∀ (n s : Nat), numb (s : Int) ((List.range' s n).map f) = (List.range' s n).map fun c => .tup [nD c, f c]
  | 0, _ => rfl
  | n + 1, s => by
    rw [List.range'_succ, List.map_cons, List.map_cons, numb, show (s : Int) + 1 = ((s + 1 : Nat) : Int) by omega, numb_row f n (s + 1)]
    rfl
def withL (m : Gm) (lot : D) : List Nat := (List.range m.n).filter fun c => eqv (rowD m c) lot
theorem shp_str {s : List Nat} (h : ∀ x ∈ s, x < 1114112) (n : Nat) : shp n (.str s) = true := by simp [shp]; exact h
theorem Gm.Ok.ab {m : Gm} (h : m.Ok) {z : Zn} (hz : z ∈ m.zs) : z.1 ∈ abc := by
  obtain ⟨k, _, _, e⟩ := h.nm
  have : z.1 ∈ m.zs.map (·.1) := List.mem_map.mpr ⟨z, hz, rfl⟩
  rw [e] at this
  exact List.mem_of_mem_take this
theorem abc_sm {s : List Nat} (h : s ∈ abc) : Sm 1 12 (.str s) := by
  simp only [abc, List.mem_cons, List.not_mem_nil, or_false] at h
  rcases h with rfl | rfl | rfl
  · exact Sm.str (n := 1) (by decide) (by decide)
  · exact Sm.str (n := 1) (by decide) (by decide)
  · exact Sm.str (n := 1) (by decide) (by decide)
theorem row_sm {m : Gm} (hm : m.Ok) (c : Nat) : Sm 2 47 (rowD m c) := Sm.tup (L := 3) (w := 12) (fun d hd => by
  obtain ⟨s, hs, rfl⟩ := List.mem_map.mp hd
  obtain ⟨z, hz, rfl⟩ := List.mem_map.mp hs
  exact abc_sm (hm.ab (List.mem_filter.mp hz).1)) (by
    rw [List.length_map]
    unfold rowL
    rw [List.length_map]
    exact Nat.le_trans (List.length_filter_le _ _) hm.zl)
theorem eq_row {m : Gm} (hm : m.Ok) {c : Nat} {lot : D} (hn : nrf lot = true) (hs : shp 60 lot = true) (S : Sto) : oEq (rowD m c) lot S = .ok (.bl (eqv (rowD m c) lot)) S := by
  have h1 : shp 60 (rowD m c) = true := shp_mono _ (by decide) (vl_2 (row_sm hm c).1)
  have := oEq_gen (a := rowD m c) (b := lot) (S := S) (by rw [rd_val (row_nrf m c)]; exact h1) (by rw [rd_val hn]; exact hs)
  rw [this, rd_val (row_nrf m c), rd_val hn]
theorem p_cells_with {m : Gm} (hm : m.Ok) {lot : D} (hn : nrf lot = true) (hs : shp 60 lot = true) (S : Sto) : f_cells_with [gD m, lot] S = .ok (cellsD (withL m lot)) S := by
  refine fnA_ok (S1 := Sto.nil) (by simp [nrfs, gm_nrf, hn]) ?_ (cells_nrf _)
  refine fn_rt (st_ret ?_)
  have hnn := hm.n
  have e : eLc [2, 3] (iEn (aCons (eCall 1 f_memberships (aCons (eVar 0) aNil)) aNil)) (gT 2 (gsCons (gN 2) (gsCons (gN 3) gsNil))) (toB (eOp oEq (eVar 3) (eVar 1))) (eVar 2) [some (gD m), some lot, none, none] Sto.nil = .ok (.lst ((withL m lot).map nD)) Sto.nil := by
    refine eLc_f (emb := fun c => .tup [nD c, rowD m c]) (out := nD) _ (xs := List.range m.n) ?_ (fun c hc => ?_) (by rw [List.length_range]; omega)
    · have := numb_row (rowD m) m.n 0
      rw [← List.range_eq_range'] at this
      simp only [fnS, env0, sSeq, sSet, sRet, sRetN, sIf, sE, sAsg, sPar, sNx, sPut, R.toS, R.bind, eVar, eC, eOp, eTup, eLst, eLstR, aCons, aNil, eIf, eAn, eOr, eNt, eIsi, toB, tNt, tAn, tOr_, tYs, eCall, eCall0, eB, eMt, eMt0, iSrc, iRg1, iRg2, iEn, iZp, gN, gT, gsCons, gsNil, turnS, List.map_cons, List.map_nil, List.length_cons, List.length_nil, List.replicate, List.cons_append, List.nil_append, List.getElem?_cons_zero, List.getElem?_cons_succ, List.set_cons_zero, List.set_cons_succ, Nat.sub_self, Nat.reduceSub, Nat.reduceAdd, if_true, Bool.false_eq_true, if_false, ite_true, ite_false, List.cons.injEq, and_false, false_and, true_and, and_true, decide_false, decide_true, Bool.not_true, Bool.not_false, Bool.true_and, Bool.false_and, Bool.and_true, Bool.and_false, Bool.or_false, Bool.or_true, Bool.false_or, Bool.true_or, Nat.reduceEqDiff, reduceCtorEq, eSl, pSome, pNone, lcT, wipeE, fits_0, fits_1, fits_2, fits_3, fits_4, p_memberships hm, srcOf, lkE, show ((0 : Int)) = ((0 : Nat) : Int) from rfl, this]
    · simp only [fnS, env0, sSeq, sSet, sRet, sRetN, sIf, sE, sAsg, sPar, sNx, sPut, R.toS, R.bind, eVar, eC, eOp, eTup, eLst, eLstR, aCons, aNil, eIf, eAn, eOr, eNt, eIsi, toB, tNt, tAn, tOr_, tYs, eCall, eCall0, eB, eMt, eMt0, iSrc, iRg1, iRg2, iEn, iZp, gN, gT, gsCons, gsNil, turnS, List.map_cons, List.map_nil, List.length_cons, List.length_nil, List.replicate, List.cons_append, List.nil_append, List.getElem?_cons_zero, List.getElem?_cons_succ, List.set_cons_zero, List.set_cons_succ, Nat.sub_self, Nat.reduceSub, Nat.reduceAdd, if_true, Bool.false_eq_true, if_false, ite_true, ite_false, List.cons.injEq, and_false, false_and, true_and, and_true, decide_false, decide_true, Bool.not_true, Bool.not_false, Bool.true_and, Bool.false_and, Bool.and_true, Bool.and_false, Bool.or_false, Bool.or_true, Bool.false_or, Bool.true_or, Nat.reduceEqDiff, reduceCtorEq, eSl, pSome, pNone, lcT, wipeE, fits_0, fits_1, fits_2, fits_3, fits_4, gT, rd, eq_row hm hn hs]
      exact ite_ok
  show (eB oTuple (aCons _ aNil)) [some (gD m), some lot, none, none] Sto.nil = _
  revert e
  generalize eLc _ _ _ _ _ = E
  intro e
  simp only [fnS, env0, sSeq, sSet, sRet, sRetN, sIf, sE, sAsg, sPar, sNx, sPut, R.toS, R.bind, eVar, eC, eOp, eTup, eLst, eLstR, aCons, aNil, eIf, eAn, eOr, eNt, eIsi, toB, tNt, tAn, tOr_, tYs, eCall, eCall0, eB, eMt, eMt0, iSrc, iRg1, iRg2, iEn, iZp, gN, gT, gsCons, gsNil, turnS, List.map_cons, List.map_nil, List.length_cons, List.length_nil, List.replicate, List.cons_append, List.nil_append, List.getElem?_cons_zero, List.getElem?_cons_succ, List.set_cons_zero, List.set_cons_succ, Nat.sub_self, Nat.reduceSub, Nat.reduceAdd, if_true, Bool.false_eq_true, if_false, ite_true, ite_false, List.cons.injEq, and_false, false_and, true_and, and_true, decide_false, decide_true, Bool.not_true, Bool.not_false, Bool.true_and, Bool.false_and, Bool.and_true, Bool.and_false, Bool.or_false, Bool.or_true, Bool.false_or, Bool.true_or, Nat.reduceEqDiff, reduceCtorEq, eSl, pSome, pNone, lcT, wipeE, fits_0, fits_1, fits_2, fits_3, fits_4, e]
  rfl
/-! ### seams, and what is no cell -/
theorem p_is_counts_v {ds : List D} (hv : ∀ d ∈ ds, val d = true) (hl : ds.length ≤ 1000) (S : Sto) : f_is_counts [.tup ds] S = .ok (.bl (ds.all isC)) S := by
  refine fnA_ok (S1 := Sto.nil) (by simp [nrfs, nrf]; exact nrfs_of fun d hd => val_nrf (hv d hd)) ?_ rfl
  refine fn_rt (st_ret ?_)
  have e : eLc [1] (iSrc (eVar 0)) (gN 1) tYs (eCall 1 f_is_count (aCons (eVar 1) aNil)) [some (.tup ds), none] Sto.nil = .ok (.lst ((ds.map isC).map .bl)) Sto.nil := by
    have z := eLc_m (vs := [1]) (mi := iSrc (eVar 0)) (g := gN 1) (t := tYs) (e := eCall 1 f_is_count (aCons (eVar 1) aNil)) (ρ := [some (.tup ds), none]) (S := Sto.nil) (emb := fun d : D => d) (out := fun d => .bl (isC d)) (xs := ds) ?_ (fun d hd => ?_) (by omega)
    · rw [z]; simp [Function.comp]
    · simp only [fnS, env0, sSeq, sSet, sRet, sRetN, sIf, sE, sAsg, sPar, sNx, sPut, R.toS, R.bind, eVar, eC, eOp, eTup, eLst, eLstR, aCons, aNil, eIf, eAn, eOr, eNt, eIsi, toB, tNt, tAn, tOr_, tYs, eCall, eCall0, eB, eMt, eMt0, iSrc, iRg1, iRg2, iEn, iZp, gN, gT, gsCons, gsNil, turnS, List.map_cons, List.map_nil, List.length_cons, List.length_nil, List.replicate, List.cons_append, List.nil_append, List.getElem?_cons_zero, List.getElem?_cons_succ, List.set_cons_zero, List.set_cons_succ, Nat.sub_self, Nat.reduceSub, Nat.reduceAdd, if_true, Bool.false_eq_true, if_false, ite_true, ite_false, List.cons.injEq, and_false, false_and, true_and, and_true, decide_false, decide_true, Bool.not_true, Bool.not_false, Bool.true_and, Bool.false_and, Bool.and_true, Bool.and_false, Bool.or_false, Bool.or_true, Bool.false_or, Bool.true_or, Nat.reduceEqDiff, reduceCtorEq, eSl, pSome, pNone, lcT, wipeE, fits_0, fits_1, fits_2, fits_3, fits_4, srcOf, List.map_id']
    · simp only [fnS, env0, sSeq, sSet, sRet, sRetN, sIf, sE, sAsg, sPar, sNx, sPut, R.toS, R.bind, eVar, eC, eOp, eTup, eLst, eLstR, aCons, aNil, eIf, eAn, eOr, eNt, eIsi, toB, tNt, tAn, tOr_, tYs, eCall, eCall0, eB, eMt, eMt0, iSrc, iRg1, iRg2, iEn, iZp, gN, gT, gsCons, gsNil, turnS, List.map_cons, List.map_nil, List.length_cons, List.length_nil, List.replicate, List.cons_append, List.nil_append, List.getElem?_cons_zero, List.getElem?_cons_succ, List.set_cons_zero, List.set_cons_succ, Nat.sub_self, Nat.reduceSub, Nat.reduceAdd, if_true, Bool.false_eq_true, if_false, ite_true, ite_false, List.cons.injEq, and_false, false_and, true_and, and_true, decide_false, decide_true, Bool.not_true, Bool.not_false, Bool.true_and, Bool.false_and, Bool.and_true, Bool.and_false, Bool.or_false, Bool.or_true, Bool.false_or, Bool.true_or, Nat.reduceEqDiff, reduceCtorEq, eSl, pSome, pNone, lcT, wipeE, fits_0, fits_1, fits_2, fits_3, fits_4, p_is_count (hv d hd)]
  show (eAn (eIsi .tuple (eVar 0)) (eB oAll (aCons _ aNil))) [some (.tup ds), none] Sto.nil = _
  revert e
  generalize eLc _ _ _ _ _ = E
  intro e
  simp only [fnS, env0, sSeq, sSet, sRet, sRetN, sIf, sE, sAsg, sPar, sNx, sPut, R.toS, R.bind, eVar, eC, eOp, eTup, eLst, eLstR, aCons, aNil, eIf, eAn, eOr, eNt, eIsi, toB, tNt, tAn, tOr_, tYs, eCall, eCall0, eB, eMt, eMt0, iSrc, iRg1, iRg2, iEn, iZp, gN, gT, gsCons, gsNil, turnS, List.map_cons, List.map_nil, List.length_cons, List.length_nil, List.replicate, List.cons_append, List.nil_append, List.getElem?_cons_zero, List.getElem?_cons_succ, List.set_cons_zero, List.set_cons_succ, Nat.sub_self, Nat.reduceSub, Nat.reduceAdd, if_true, Bool.false_eq_true, if_false, ite_true, ite_false, List.cons.injEq, and_false, false_and, true_and, and_true, decide_false, decide_true, Bool.not_true, Bool.not_false, Bool.true_and, Bool.false_and, Bool.and_true, Bool.and_false, Bool.or_false, Bool.or_true, Bool.false_or, Bool.true_or, Nat.reduceEqDiff, reduceCtorEq, eSl, pSome, pNone, lcT, wipeE, fits_0, fits_1, fits_2, fits_3, fits_4, eIsi, show rd Sto.nil (.tup ds) = .tup ds from rfl, show tyB .tuple (.tup ds) = some true from rfl, e, z_all]
  simp [Function.comp]
theorem p_check_cells_x {m : Gm} {ds : List D} (hv : ∀ d ∈ ds, val d = true) (hl : ds.length ≤ 1000) (h : ds.all isC = false ∨ ∃ l : List Nat, ds = l.map nD ∧ ∃ c ∈ l, m.n ≤ c) (S : Sto) : f_check_cells [gD m, .tup ds] S = .ex noth S := by
  refine fnA_ex (S1 := Sto.nil) (by simp [nrfs, gm_nrf, nrf]; exact nrfs_of fun d hd => val_nrf (hv d hd)) ?_
  refine fn_ex (ρ := [some (gD m), some (.tup ds), none]) (st_ift (S' := Sto.nil) ?_ rfl)
  rcases h with h | ⟨l, rfl, c, hc, hcn⟩
  · simp only [fnS, env0, sSeq, sSet, sRet, sRetN, sIf, sE, sAsg, sPar, sNx, sPut, R.toS, R.bind, eVar, eC, eOp, eTup, eLst, eLstR, aCons, aNil, eIf, eAn, eOr, eNt, eIsi, toB, tNt, tAn, tOr_, tYs, eCall, eCall0, eB, eMt, eMt0, iSrc, iRg1, iRg2, iEn, iZp, gN, gT, gsCons, gsNil, turnS, List.map_cons, List.map_nil, List.length_cons, List.length_nil, List.replicate, List.cons_append, List.nil_append, List.getElem?_cons_zero, List.getElem?_cons_succ, List.set_cons_zero, List.set_cons_succ, Nat.sub_self, Nat.reduceSub, Nat.reduceAdd, if_true, Bool.false_eq_true, if_false, ite_true, ite_false, List.cons.injEq, and_false, false_and, true_and, and_true, decide_false, decide_true, Bool.not_true, Bool.not_false, Bool.true_and, Bool.false_and, Bool.and_true, Bool.and_false, Bool.or_false, Bool.or_true, Bool.false_or, Bool.true_or, Nat.reduceEqDiff, reduceCtorEq, eSl, pSome, pNone, lcT, wipeE, fits_0, fits_1, fits_2, fits_3, fits_4, env0, p_is_counts_v hv hl, h]
  · have e : eLc [2] (iSrc (eVar 1)) (gN 2) tYs (eOp (oCmp .Lt) (eVar 2) (eOp oIx (eVar 0) (eC (.int 0)))) [some (gD m), some (.tup (l.map nD)), none] Sto.nil = .ok (.lst ((l.map fun c : Nat => decide ((c : Int) < m.n)).map .bl)) Sto.nil := by
      rw [List.map_map]
      refine eLc_m (emb := nD) (xs := l) ?_ (fun c hc => ?_) (by rw [List.length_map] at hl; omega)
      · simp only [fnS, env0, sSeq, sSet, sRet, sRetN, sIf, sE, sAsg, sPar, sNx, sPut, R.toS, R.bind, eVar, eC, eOp, eTup, eLst, eLstR, aCons, aNil, eIf, eAn, eOr, eNt, eIsi, toB, tNt, tAn, tOr_, tYs, eCall, eCall0, eB, eMt, eMt0, iSrc, iRg1, iRg2, iEn, iZp, gN, gT, gsCons, gsNil, turnS, List.map_cons, List.map_nil, List.length_cons, List.length_nil, List.replicate, List.cons_append, List.nil_append, List.getElem?_cons_zero, List.getElem?_cons_succ, List.set_cons_zero, List.set_cons_succ, Nat.sub_self, Nat.reduceSub, Nat.reduceAdd, if_true, Bool.false_eq_true, if_false, ite_true, ite_false, List.cons.injEq, and_false, false_and, true_and, and_true, decide_false, decide_true, Bool.not_true, Bool.not_false, Bool.true_and, Bool.false_and, Bool.and_true, Bool.and_false, Bool.or_false, Bool.or_true, Bool.false_or, Bool.true_or, Nat.reduceEqDiff, reduceCtorEq, eSl, pSome, pNone, lcT, wipeE, fits_0, fits_1, fits_2, fits_3, fits_4, srcOf]
      · simp only [fnS, env0, sSeq, sSet, sRet, sRetN, sIf, sE, sAsg, sPar, sNx, sPut, R.toS, R.bind, eVar, eC, eOp, eTup, eLst, eLstR, aCons, aNil, eIf, eAn, eOr, eNt, eIsi, toB, tNt, tAn, tOr_, tYs, eCall, eCall0, eB, eMt, eMt0, iSrc, iRg1, iRg2, iEn, iZp, gN, gT, gsCons, gsNil, turnS, List.map_cons, List.map_nil, List.length_cons, List.length_nil, List.replicate, List.cons_append, List.nil_append, List.getElem?_cons_zero, List.getElem?_cons_succ, List.set_cons_zero, List.set_cons_succ, Nat.sub_self, Nat.reduceSub, Nat.reduceAdd, if_true, Bool.false_eq_true, if_false, ite_true, ite_false, List.cons.injEq, and_false, false_and, true_and, and_true, decide_false, decide_true, Bool.not_true, Bool.not_false, Bool.true_and, Bool.false_and, Bool.and_true, Bool.and_false, Bool.or_false, Bool.or_true, Bool.false_or, Bool.true_or, Nat.reduceEqDiff, reduceCtorEq, eSl, pSome, pNone, lcT, wipeE, fits_0, fits_1, fits_2, fits_3, fits_4, gD, gmD, z_t0, nD, z_lt, Function.comp]
    have ha : (l.map nD).all isC = true := by
      rw [List.all_eq_true]
      intro d hd
      obtain ⟨c, _, rfl⟩ := List.mem_map.mp hd
      exact isC_nat c
    have hb : (l.map fun c : Nat => decide ((c : Int) < m.n)).all id = false := by
      rw [Bool.eq_false_iff]
      intro z
      rw [List.all_eq_true] at z
      have := z _ (List.mem_map.mpr ⟨c, hc, rfl⟩)
      simp at this
      omega
    show (tOr_ (tNt (toB (eCall 1 f_is_counts (aCons (eVar 1) aNil)))) (tNt (toB (eB oAll (aCons _ aNil))))) [some (gD m), some (.tup (l.map nD)), none] Sto.nil = _
    revert e
    generalize eLc _ _ _ _ _ = E
    intro e
    simp only [fnS, env0, sSeq, sSet, sRet, sRetN, sIf, sE, sAsg, sPar, sNx, sPut, R.toS, R.bind, eVar, eC, eOp, eTup, eLst, eLstR, aCons, aNil, eIf, eAn, eOr, eNt, eIsi, toB, tNt, tAn, tOr_, tYs, eCall, eCall0, eB, eMt, eMt0, iSrc, iRg1, iRg2, iEn, iZp, gN, gT, gsCons, gsNil, turnS, List.map_cons, List.map_nil, List.length_cons, List.length_nil, List.replicate, List.cons_append, List.nil_append, List.getElem?_cons_zero, List.getElem?_cons_succ, List.set_cons_zero, List.set_cons_succ, Nat.sub_self, Nat.reduceSub, Nat.reduceAdd, if_true, Bool.false_eq_true, if_false, ite_true, ite_false, List.cons.injEq, and_false, false_and, true_and, and_true, decide_false, decide_true, Bool.not_true, Bool.not_false, Bool.true_and, Bool.false_and, Bool.and_true, Bool.and_false, Bool.or_false, Bool.or_true, Bool.false_or, Bool.true_or, Nat.reduceEqDiff, reduceCtorEq, eSl, pSome, pNone, lcT, wipeE, fits_0, fits_1, fits_2, fits_3, fits_4, p_is_counts_v hv hl, ha, e, z_all, hb]
theorem p_check_cells_l {m : Gm} (S : Sto) : f_check_cells [gD m, .lst [nD 0]] S = .ex noth S := by
  refine fnA_ex (S1 := Sto.nil) (by simp [nrfs, gm_nrf, nrf, nD]) ?_
  refine fn_ex (ρ := [some (gD m), some (.lst [nD 0]), none]) (st_ift (S' := Sto.nil) ?_ rfl)
  have : ∀ S, f_is_counts [.lst [nD 0]] S = .ok (.bl false) S := fun S => by rfl
  simp only [fnS, env0, sSeq, sSet, sRet, sRetN, sIf, sE, sAsg, sPar, sNx, sPut, R.toS, R.bind, eVar, eC, eOp, eTup, eLst, eLstR, aCons, aNil, eIf, eAn, eOr, eNt, eIsi, toB, tNt, tAn, tOr_, tYs, eCall, eCall0, eB, eMt, eMt0, iSrc, iRg1, iRg2, iEn, iZp, gN, gT, gsCons, gsNil, turnS, List.map_cons, List.map_nil, List.length_cons, List.length_nil, List.replicate, List.cons_append, List.nil_append, List.getElem?_cons_zero, List.getElem?_cons_succ, List.set_cons_zero, List.set_cons_succ, Nat.sub_self, Nat.reduceSub, Nat.reduceAdd, if_true, Bool.false_eq_true, if_false, ite_true, ite_false, List.cons.injEq, and_false, false_and, true_and, and_true, decide_false, decide_true, Bool.not_true, Bool.not_false, Bool.true_and, Bool.false_and, Bool.and_true, Bool.and_false, Bool.or_false, Bool.or_true, Bool.false_or, Bool.true_or, Nat.reduceEqDiff, reduceCtorEq, eSl, pSome, pNone, lcT, wipeE, fits_0, fits_1, fits_2, fits_3, fits_4, env0, this]
def hsB (m : Gm) (a b : Nat) : Bool := (m.sm.map cpD).any fun z => eqv z (.tup [.int (if (b : Int) < a then b else a), .int (if (b : Int) > a then b else a)])
theorem in_seams {m : Gm} {a b : Nat} (S : Sto) : oIn (.tup [.int (if (b : Int) < a then b else a), .int (if (b : Int) > a then b else a)]) (.tup (m.sm.map cpD)) S = .ok (.bl (hsB m a b)) S := z_inT (by simp [nrf, nrfs]) (by simp [shp, shps]) (by rw [shp]; exact shps_cp 58 _)
theorem p_has_seam {m : Gm} {a b : Nat} (ha : a < m.n) (hb : b < m.n) (S : Sto) : f_has_seam [gD m, nD a, nD b] S = .ok (.bl (hsB m a b)) S := by
  refine fnA_ok (S1 := Sto.nil) (by simp [nrfs, gm_nrf, nD, nrf]) ?_ rfl
  have hc : ∀ S, f_check_cells [gD m, .tup [nD a, nD b]] S = .ok .non S := fun S => p_check_cells (l := [a, b]) (by simp) (fun c hc => by
    simp only [List.mem_cons, List.not_mem_nil, or_false] at hc
    rcases hc with rfl | rfl
    · exact ha
    · exact hb) S
  refine fn_rt (sq_nx (st_e (d := .non) (S' := Sto.nil) (by simp only [fnS, env0, sSeq, sSet, sRet, sRetN, sIf, sE, sAsg, sPar, sNx, sPut, R.toS, R.bind, eVar, eC, eOp, eTup, eLst, eLstR, aCons, aNil, eIf, eAn, eOr, eNt, eIsi, toB, tNt, tAn, tOr_, tYs, eCall, eCall0, eB, eMt, eMt0, iSrc, iRg1, iRg2, iEn, iZp, gN, gT, gsCons, gsNil, turnS, List.map_cons, List.map_nil, List.length_cons, List.length_nil, List.replicate, List.cons_append, List.nil_append, List.getElem?_cons_zero, List.getElem?_cons_succ, List.set_cons_zero, List.set_cons_succ, Nat.sub_self, Nat.reduceSub, Nat.reduceAdd, if_true, Bool.false_eq_true, if_false, ite_true, ite_false, List.cons.injEq, and_false, false_and, true_and, and_true, decide_false, decide_true, Bool.not_true, Bool.not_false, Bool.true_and, Bool.false_and, Bool.and_true, Bool.and_false, Bool.or_false, Bool.or_true, Bool.false_or, Bool.true_or, Nat.reduceEqDiff, reduceCtorEq, eSl, pSome, pNone, lcT, wipeE, fits_0, fits_1, fits_2, fits_3, fits_4, env0, show fits 2 = true from rfl, hc])) (st_ret ?_))
  have h1 : ∀ S, oMin [nD a, nD b] S = .ok (.int (if (b : Int) < a then b else a)) S := fun _ => rfl
  have h2 : ∀ S, oMax [nD a, nD b] S = .ok (.int (if (b : Int) > a then b else a)) S := fun _ => rfl
  simp only [fnS, env0, sSeq, sSet, sRet, sRetN, sIf, sE, sAsg, sPar, sNx, sPut, R.toS, R.bind, eVar, eC, eOp, eTup, eLst, eLstR, aCons, aNil, eIf, eAn, eOr, eNt, eIsi, toB, tNt, tAn, tOr_, tYs, eCall, eCall0, eB, eMt, eMt0, iSrc, iRg1, iRg2, iEn, iZp, gN, gT, gsCons, gsNil, turnS, List.map_cons, List.map_nil, List.length_cons, List.length_nil, List.replicate, List.cons_append, List.nil_append, List.getElem?_cons_zero, List.getElem?_cons_succ, List.set_cons_zero, List.set_cons_succ, Nat.sub_self, Nat.reduceSub, Nat.reduceAdd, if_true, Bool.false_eq_true, if_false, ite_true, ite_false, List.cons.injEq, and_false, false_and, true_and, and_true, decide_false, decide_true, Bool.not_true, Bool.not_false, Bool.true_and, Bool.false_and, Bool.and_true, Bool.and_false, Bool.or_false, Bool.or_true, Bool.false_or, Bool.true_or, Nat.reduceEqDiff, reduceCtorEq, eSl, pSome, pNone, lcT, wipeE, fits_0, fits_1, fits_2, fits_3, fits_4, env0, h1, h2, show fits 2 = true from rfl, gD, gmD, z_t1, in_seams]
theorem p_has_seam_x {m : Gm} {d : D} (hv : val d = true) (h : isC d = false ∨ d = nD m.n) (S : Sto) : f_has_seam [gD m, .int 0, d] S = .ex noth S := by
  refine fnA_ex (S1 := Sto.nil) (by simp [nrfs, gm_nrf, nrf, val_nrf hv]) ?_
  have hc : ∀ S, f_check_cells [gD m, .tup [.int 0, d]] S = .ex noth S := fun S => p_check_cells_x (ds := [.int 0, d]) (fun e he => by
    simp only [List.mem_cons, List.not_mem_nil, or_false] at he
    rcases he with rfl | rfl
    · rfl
    · exact hv) (by simp) (by
      rcases h with h | rfl
      · left; simp [h]
      · right; exact ⟨[0, m.n], rfl, m.n, by simp, Nat.le_refl _⟩) S
  exact fn_ex (ρ := [some (gD m), some (.int 0), some d]) (sq_ex (st_eex (S' := Sto.nil) (by simp only [fnS, env0, sSeq, sSet, sRet, sRetN, sIf, sE, sAsg, sPar, sNx, sPut, R.toS, R.bind, eVar, eC, eOp, eTup, eLst, eLstR, aCons, aNil, eIf, eAn, eOr, eNt, eIsi, toB, tNt, tAn, tOr_, tYs, eCall, eCall0, eB, eMt, eMt0, iSrc, iRg1, iRg2, iEn, iZp, gN, gT, gsCons, gsNil, turnS, List.map_cons, List.map_nil, List.length_cons, List.length_nil, List.replicate, List.cons_append, List.nil_append, List.getElem?_cons_zero, List.getElem?_cons_succ, List.set_cons_zero, List.set_cons_succ, Nat.sub_self, Nat.reduceSub, Nat.reduceAdd, if_true, Bool.false_eq_true, if_false, ite_true, ite_false, List.cons.injEq, and_false, false_and, true_and, and_true, decide_false, decide_true, Bool.not_true, Bool.not_false, Bool.true_and, Bool.false_and, Bool.and_true, Bool.and_false, Bool.or_false, Bool.or_true, Bool.false_or, Bool.true_or, Nat.reduceEqDiff, reduceCtorEq, eSl, pSome, pNone, lcT, wipeE, fits_0, fits_1, fits_2, fits_3, fits_4, env0, show fits 2 = true from rfl, hc])))
theorem p_seams_x1 {m : Gm} {d e : D} (hv : val d = true) (he : nrf e = true) (h : isC d = false ∨ d = nD m.n) (S : Sto) : f_seams_between [gD m, .tup [d], e] S = .ex noth S := by
  refine fnA_ex (S1 := Sto.nil) (by simp [nrfs, gm_nrf, nrf, val_nrf hv, he]) ?_
  have hc : ∀ S, f_check_cells [gD m, .tup [d]] S = .ex noth S := fun S => p_check_cells_x (ds := [d]) (fun e he => by
    rw [List.mem_singleton] at he; subst he; exact hv) (by simp) (by
      rcases h with h | rfl
      · left; simp [h]
      · right; exact ⟨[m.n], rfl, m.n, by simp, Nat.le_refl _⟩) S
  exact fn_ex (ρ := [some (gD m), some (.tup [d]), some e, none, none, none, none, none, none]) (sq_ex (st_eex (S' := Sto.nil) (by simp only [fnS, env0, sSeq, sSet, sRet, sRetN, sIf, sE, sAsg, sPar, sNx, sPut, R.toS, R.bind, eVar, eC, eOp, eTup, eLst, eLstR, aCons, aNil, eIf, eAn, eOr, eNt, eIsi, toB, tNt, tAn, tOr_, tYs, eCall, eCall0, eB, eMt, eMt0, iSrc, iRg1, iRg2, iEn, iZp, gN, gT, gsCons, gsNil, turnS, List.map_cons, List.map_nil, List.length_cons, List.length_nil, List.replicate, List.cons_append, List.nil_append, List.getElem?_cons_zero, List.getElem?_cons_succ, List.set_cons_zero, List.set_cons_succ, Nat.sub_self, Nat.reduceSub, Nat.reduceAdd, if_true, Bool.false_eq_true, if_false, ite_true, ite_false, List.cons.injEq, and_false, false_and, true_and, and_true, decide_false, decide_true, Bool.not_true, Bool.not_false, Bool.true_and, Bool.false_and, Bool.and_true, Bool.and_false, Bool.or_false, Bool.or_true, Bool.false_or, Bool.true_or, Nat.reduceEqDiff, reduceCtorEq, eSl, pSome, pNone, lcT, wipeE, fits_0, fits_1, fits_2, fits_3, fits_4, env0, hc])))
theorem p_seams_x2 {m : Gm} (S : Sto) : f_seams_between [gD m, .tup [], .lst [nD 0]] S = .ex noth S := by
  refine fnA_ex (S1 := Sto.nil) (by simp [nrfs, gm_nrf, nrf, nD]) ?_
  have hc : ∀ S, f_check_cells [gD m, .tup []] S = .ok .non S := fun S => p_check_cells (l := []) (by simp) (fun c hc => nomatch hc) S
  exact fn_ex (ρ := [some (gD m), some (.tup []), some (.lst [nD 0]), none, none, none, none, none, none]) (sq_nx (st_e (d := .non) (S' := Sto.nil) (by simp only [fnS, env0, sSeq, sSet, sRet, sRetN, sIf, sE, sAsg, sPar, sNx, sPut, R.toS, R.bind, eVar, eC, eOp, eTup, eLst, eLstR, aCons, aNil, eIf, eAn, eOr, eNt, eIsi, toB, tNt, tAn, tOr_, tYs, eCall, eCall0, eB, eMt, eMt0, iSrc, iRg1, iRg2, iEn, iZp, gN, gT, gsCons, gsNil, turnS, List.map_cons, List.map_nil, List.length_cons, List.length_nil, List.replicate, List.cons_append, List.nil_append, List.getElem?_cons_zero, List.getElem?_cons_succ, List.set_cons_zero, List.set_cons_succ, Nat.sub_self, Nat.reduceSub, Nat.reduceAdd, if_true, Bool.false_eq_true, if_false, ite_true, ite_false, List.cons.injEq, and_false, false_and, true_and, and_true, decide_false, decide_true, Bool.not_true, Bool.not_false, Bool.true_and, Bool.false_and, Bool.and_true, Bool.and_false, Bool.or_false, Bool.or_true, Bool.false_or, Bool.true_or, Nat.reduceEqDiff, reduceCtorEq, eSl, pSome, pNone, lcT, wipeE, fits_0, fits_1, fits_2, fits_3, fits_4, env0, hc])) (sq_ex (st_eex (S' := Sto.nil) (by simp only [fnS, env0, sSeq, sSet, sRet, sRetN, sIf, sE, sAsg, sPar, sNx, sPut, R.toS, R.bind, eVar, eC, eOp, eTup, eLst, eLstR, aCons, aNil, eIf, eAn, eOr, eNt, eIsi, toB, tNt, tAn, tOr_, tYs, eCall, eCall0, eB, eMt, eMt0, iSrc, iRg1, iRg2, iEn, iZp, gN, gT, gsCons, gsNil, turnS, List.map_cons, List.map_nil, List.length_cons, List.length_nil, List.replicate, List.cons_append, List.nil_append, List.getElem?_cons_zero, List.getElem?_cons_succ, List.set_cons_zero, List.set_cons_succ, Nat.sub_self, Nat.reduceSub, Nat.reduceAdd, if_true, Bool.false_eq_true, if_false, ite_true, ite_false, List.cons.injEq, and_false, false_and, true_and, and_true, decide_false, decide_true, Bool.not_true, Bool.not_false, Bool.true_and, Bool.false_and, Bool.and_true, Bool.and_false, Bool.or_false, Bool.or_true, Bool.false_or, Bool.true_or, Nat.reduceEqDiff, reduceCtorEq, eSl, pSome, pNone, lcT, wipeE, fits_0, fits_1, fits_2, fits_3, fits_4, env0, p_check_cells_l]))))
/-! ### cells of a zone -/
theorem Gm.Ok.shape {m : Gm} (h : m.Ok) : (∃ a, m.zs = [([97], a)]) ∨ (∃ a b, m.zs = [([97], a), ([98], b)]) ∨ ∃ a b c, m.zs = [([97], a), ([98], b), ([99], c)] := by
  obtain ⟨k, h1, h3, e⟩ := h.nm
  have hk : k = 1 ∨ k = 2 ∨ k = 3 := by omega
  obtain ⟨n, sm, zs⟩ := m
  dsimp only at e ⊢
  rcases hk with rfl | rfl | rfl
  · match zs, e with
    | [(x, a)], e => simp [abc] at e; subst e; exact .inl ⟨a, rfl⟩
  · match zs, e with
    | [(x, a), (y, b)], e => simp [abc] at e; obtain ⟨rfl, rfl⟩ := e; exact .inr (.inl ⟨a, b, rfl⟩)
  · match zs, e with
    | [(x, a), (y, b), (z, c)], e => simp [abc] at e; obtain ⟨rfl, rfl, rfl⟩ := e; exact .inr (.inr ⟨a, b, c, rfl⟩)
theorem p_cells_in {m : Gm} (hm : m.Ok) {z : Zn} (hz : z ∈ m.zs) (S : Sto) : f_cells_in [gD m, .str z.1] S = .ok (cellsD z.2) S := by
  refine fnA_ok (S1 := Sto.nil) (by simp [nrfs, gm_nrf, nrf]) ?_ (cells_nrf _)
  have hs := hm.shape
  obtain ⟨n, sm, zs⟩ := m
  dsimp only at hs hz
  rcases hs with ⟨a, rfl⟩ | ⟨a, b, rfl⟩ | ⟨a, b, c, rfl⟩ <;> simp only [List.mem_cons, List.not_mem_nil, or_false] at hz
  · subst hz; rfl
  · rcases hz with rfl | rfl <;> rfl
  · rcases hz with rfl | rfl | rfl <;> rfl
theorem p_cells_in_x {m : Gm} (hm : m.Ok) {d : D} (hd : d = .str [122, 122] ∨ d = .str [65] ∨ d = .non ∨ d = .int 1) (S : Sto) : f_cells_in [gD m, d] S = .ex noth S := by
  have hs := hm.shape
  have hn := gm_nrf m
  obtain ⟨n, sm, zs⟩ := m
  dsimp only at hs
  rcases hd with rfl | rfl | rfl | rfl <;> rcases hs with ⟨a, rfl⟩ | ⟨a, b, rfl⟩ | ⟨a, b, c, rfl⟩ <;> exact fnA_ex (S1 := Sto.nil) (by simp [nrfs, hn, nrf]) rfl
/-! ### names, lots -/
theorem lots_1 (S : Sto) : f_law_lots [.lst [.str [97]]] S = .ok (.lst [.tup [], .tup [.str [97]]]) S := by rfl
theorem lots_2 (S : Sto) : f_law_lots [.lst [.str [97], .str [98]]] S = .ok (.lst [.tup [], .tup [.str [97]], .tup [.str [98]], .tup [.str [97], .str [98]]]) S := by rfl
theorem lots_3 (S : Sto) : f_law_lots [.lst [.str [97], .str [98], .str [99]]] S = .ok (.lst [.tup [], .tup [.str [97]], .tup [.str [98]], .tup [.str [99]], .tup [.str [97], .str [98]], .tup [.str [97], .str [99]], .tup [.str [98], .str [99]], .tup [.str [97], .str [98], .str [99]]]) S := by rfl
theorem e_take : f_law_take = f_take := rfl
theorem e_bag : f_law_bag = f_bag := rfl
theorem e_map : f_law_map = f_map := rfl
theorem e_alike : f_law_alike = alike := rfl
theorem three_ok {β : Nat} {S : Sto} (h : Bg β S) : ∃ (k : Nat) (S' : Sto), 1 ≤ k ∧ k ≤ 3 ∧ f_law_three [.ref β] S = .ok (.tup ((abc.take k).map .str)) S' ∧ Nxt β S S' := by
  obtain ⟨v, S', e, hv, n⟩ := take_nat (many := 3) h (by decide) (by decide)
  have e : f_law_take [.ref β, .int 3] S = .ok (.int v) S' := e
  refine ⟨1 + v, S', by omega, by omega, fn_rt (st_ret ?_), n⟩
  have h2 : v = 0 ∨ v = 1 ∨ v = 2 := by omega
  simp only [fnS, env0, sSeq, sSet, sRet, sRetN, sIf, sE, sAsg, sPar, sNx, sPut, R.toS, R.bind, eVar, eC, eOp, eTup, eLst, eLstR, aCons, aNil, eIf, eAn, eOr, eNt, eIsi, toB, tNt, tAn, tOr_, tYs, eCall, eCall0, eB, eMt, eMt0, iSrc, iRg1, iRg2, iEn, iZp, gN, gT, gsCons, gsNil, turnS, List.map_cons, List.map_nil, List.length_cons, List.length_nil, List.replicate, List.cons_append, List.nil_append, List.getElem?_cons_zero, List.getElem?_cons_succ, List.set_cons_zero, List.set_cons_succ, Nat.sub_self, Nat.reduceSub, Nat.reduceAdd, if_true, Bool.false_eq_true, if_false, ite_true, ite_false, List.cons.injEq, and_false, false_and, true_and, and_true, decide_false, decide_true, Bool.not_true, Bool.not_false, Bool.true_and, Bool.false_and, Bool.and_true, Bool.and_false, Bool.or_false, Bool.or_true, Bool.false_or, Bool.true_or, Nat.reduceEqDiff, reduceCtorEq, eSl, pSome, pNone, lcT, wipeE, fits_0, fits_1, fits_2, fits_3, fits_4, env0, e, z_addI, show fits 3 = true from rfl]
  rcases h2 with rfl | rfl | rfl <;> rfl
theorem gmap_ok {β : Nat} {S : Sto} {k : Nat} (h : Bg β S) (h1 : 1 ≤ k) (h3 : k ≤ 3) : ∃ (m : Gm) (S' : Sto), f_law_map [.ref β, .tup ((abc.take k).map .str), .int 6] S = .ok (gD m) S' ∧ m.Ok ∧ m.n ≤ 6 ∧ m.zs.map (·.1) = abc.take k ∧ Nxt β S S' := by
  obtain ⟨n, sm, zs, S', e, a1, a2, a3, a4, a5, nx⟩ := map_ok (names := abc.take k) (most := 6) h (by decide) (by decide) (by rw [List.length_take]; omega)
  exact ⟨⟨n, sm, zs⟩, S', e, ⟨a1, by show n ≤ 8; omega, a3, ⟨k, h1, h3, a4⟩, a5⟩, a2, a4, nx⟩
end Zk16

namespace Zk16
open PySem PySem.Spec PyProof PyProof.Rows L2 Z
theorem z_tuple {l : List D} {S : Sto} : oTuple [.lst l] S = .ok (.tup l) S := rfl
theorem z_list {l : List D} {S : Sto} : oList [.tup l] S = .ok (.lst l) S := rfl
theorem some_ok {β : Nat} {S : Sto} {ds : List D} (h : Bg β S) (h0 : 0 < ds.length) (h1 : ds.length ≤ 1000) : ∃ (d : D) (S' : Sto), f_law_some [.ref β, .lst ds] S = .ok d S' ∧ d ∈ ds ∧ Nxt β S S' := by
  obtain ⟨v, S', e, hv, n⟩ := take_nat h h0 (by omega)
  refine ⟨ds[v], S', ?_, List.getElem_mem hv, n⟩
  refine fn_rt ?_
  have e : f_law_take [.ref β, .int ds.length] S = .ok (.int v) S' := e
  have hx : ∀ S, oIx (.lst ds) (.int v) S = .ok ds[v] S := fun S => z_ixL (by omega) (by simp [hv])
  simp only [m_law_some, env0, fnS, env0, sSeq, sSet, sRet, sRetN, sIf, sE, sAsg, sPar, sNx, sPut, R.toS, R.bind, eVar, eC, eOp, eTup, eLst, eLstR, aCons, aNil, eIf, eAn, eOr, eNt, eIsi, toB, tNt, tAn, tOr_, tYs, eCall, eCall0, eB, eMt, eMt0, iSrc, iRg1, iRg2, iEn, iZp, gN, gT, gsCons, gsNil, turnS, List.map_cons, List.map_nil, List.length_cons, List.length_nil, List.replicate, List.cons_append, List.nil_append, List.getElem?_cons_zero, List.getElem?_cons_succ, List.set_cons_zero, List.set_cons_succ, Nat.sub_self, Nat.reduceSub, Nat.reduceAdd, if_true, Bool.false_eq_true, if_false, ite_true, ite_false, List.cons.injEq, and_false, false_and, true_and, and_true, decide_false, decide_true, Bool.not_true, Bool.not_false, Bool.true_and, Bool.false_and, Bool.and_true, Bool.and_false, Bool.or_false, Bool.or_true, Bool.false_or, Bool.true_or, Nat.reduceEqDiff, reduceCtorEq, eSl, pSome, pNone, lcT, wipeE, fits_0, fits_1, fits_2, fits_3, fits_4, z_lenL, e, hx]
theorem rg_many {m : Gm} (hm : m.Ok) {ρ : Z.Env} {S : Sto} (h : ρ[10]? = some (some (nD m.n))) : iRg1 (aCons (eVar 10) aNil) ρ S = .ok (.st ((List.range m.n).map nD)) S := rg1_nat (by
  show ((eVar 10 ρ S).bind fun a S => (aNil ρ S).bind fun as S => .ok (a :: as) S) = _
  unfold eVar
  rw [h]
  rfl) (by have := hm.n; omega)
theorem row_at {m : Gm} {c : Nat} (h : c < m.n) (S : Sto) : oIx (.lst ((List.range m.n).map (rowD m))) (nD c) S = .ok (rowD m c) S := z_ixL (by omega) (by simp [h])
/-! rows -/
theorem e_rows {m : Gm} (hm : m.Ok) {x0 x2 x5 x6 x7 x8 x9 x13 x14 x15 x16 x17 x18 x19 : Option D} {S : Sto} : (eLc [16] (iRg1 (aCons (eVar 10) aNil)) (gN 16) tYs (eCall 2 f_law_member (aCons (eVar 4) (aCons (eVar 16) aNil)))) [x0, some (.ref 1), x2, some (.tup (m.zs.map fun z => .str z.1)), some (gD m), x5, x6, x7, x8, x9, some (nD m.n), some (.tup (m.sm.map cpD)), some (.tup (m.zs.map znD)), x13, x14, x15, x16, x17, x18, x19] S = .ok (.lst ((List.range m.n).map (rowD m))) S := by
  refine eLc_m (emb := nD) (xs := List.range m.n) (rg_many hm rfl) (fun c hc => ?_) (by rw [List.length_range]; have := hm.n; omega)
  simp only [fnS, env0, sSeq, sSet, sRet, sRetN, sIf, sE, sAsg, sPar, sNx, sPut, R.toS, R.bind, eVar, eC, eOp, eTup, eLst, eLstR, aCons, aNil, eIf, eAn, eOr, eNt, eIsi, toB, tNt, tAn, tOr_, tYs, eCall, eCall0, eB, eMt, eMt0, iSrc, iRg1, iRg2, iEn, iZp, gN, gT, gsCons, gsNil, turnS, List.map_cons, List.map_nil, List.length_cons, List.length_nil, List.replicate, List.cons_append, List.nil_append, List.getElem?_cons_zero, List.getElem?_cons_succ, List.set_cons_zero, List.set_cons_succ, Nat.sub_self, Nat.reduceSub, Nat.reduceAdd, if_true, Bool.false_eq_true, if_false, ite_true, ite_false, List.cons.injEq, and_false, false_and, true_and, and_true, decide_false, decide_true, Bool.not_true, Bool.not_false, Bool.true_and, Bool.false_and, Bool.and_true, Bool.and_false, Bool.or_false, Bool.or_true, Bool.false_or, Bool.true_or, Nat.reduceEqDiff, reduceCtorEq, eSl, pSome, pNone, lcT, wipeE, fits_0, fits_1, fits_2, fits_3, fits_4, q_member hm]
/-! names, rows, cells -/
def f4 (m : Gm) : D := .lst [.tup (m.zs.map fun z => .str z.1), .tup ((List.range m.n).map (rowD m)), .lst (m.zs.map fun z => cellsD z.2)]
theorem f4_sm {m : Gm} (hm : m.Ok) : Sm 4 6000 (f4 m) := by
  have a1 : Sm 3 1000 (.tup (m.zs.map fun z => .str z.1)) := (Sm.tup (L := 3) (k := 1) (w := 12) (fun d hd => by
    obtain ⟨z, hz, rfl⟩ := List.mem_map.mp hd
    exact abc_sm (hm.ab hz)) (by rw [List.length_map]; exact hm.zl)).up (by decide) (by decide)
  have a2 : Sm 3 1000 (.tup ((List.range m.n).map (rowD m))) := (Sm.tup (L := 8) (fun d hd => by
    obtain ⟨c, hc, rfl⟩ := List.mem_map.mp hd
    exact row_sm hm c) (by rw [List.length_map, List.length_range]; exact hm.n)).up (by decide) (by decide)
  have a3 : Sm 3 1000 (.lst (m.zs.map fun z => cellsD z.2)) := (Sm.lst (L := 3) (fun d hd => by
    obtain ⟨z, hz, rfl⟩ := List.mem_map.mp hd
    exact Sm.cells (n := 8) (fun c hc => by have := hm.zc hz c hc; have := hm.n; omega) (hm.zz hz)) (by rw [List.length_map]; exact hm.zl)).up (by decide) (by decide)
  refine (Sm.lst (L := 3) (k := 3) (w := 1000) (fun d hd => ?_) (Nat.le_refl _)).up (by decide) (by decide)
  simp only [List.mem_cons, List.not_mem_nil, or_false] at hd
  rcases hd with rfl | rfl | rfl
  · exact a1
  · exact a2
  · exact a3
theorem s_4 {m : Gm} (hm : m.Ok) {x0 x2 x6 x7 x8 x9 x13 x14 x15 x16 x17 x18 x19 : Option D} {S : Sto} : (sIf (tNt (toB (eCall 2 f_law_alike (aCons (eLst (aCons (eCall 1 f_names_of (aCons (eVar 4) aNil)) (aCons (eCall 1 f_memberships (aCons (eVar 4) aNil)) (aCons (eLc [18] (iSrc (eVar 3)) (gN 18) tYs (eCall 2 f_cells_in (aCons (eVar 4) (aCons (eVar 18) aNil)))) aNil)))) (aCons (eLst (aCons (eVar 3) (aCons (eB oTuple (aCons (eVar 5) aNil)) (aCons (eLc [18, 19] (iSrc (eVar 12)) (gT 2 (gsCons (gN 18) (gsCons (gN 19) gsNil))) tYs (eVar 19)) aNil)))) aNil))))) (sRet (eC (.bl false))) sNx) [x0, some (.ref 1), x2, some (.tup (m.zs.map fun z => .str z.1)), some (gD m), some (.lst ((List.range m.n).map (rowD m))), x6, x7, x8, x9, some (nD m.n), some (.tup (m.sm.map cpD)), some (.tup (m.zs.map znD)), x13, x14, x15, x16, x17, x18, x19] S = .nx [x0, some (.ref 1), x2, some (.tup (m.zs.map fun z => .str z.1)), some (gD m), some (.lst ((List.range m.n).map (rowD m))), x6, x7, x8, x9, some (nD m.n), some (.tup (m.sm.map cpD)), some (.tup (m.zs.map znD)), x13, x14, x15, x16, x17, x18, x19] S := by
  have e1 : (eLc [18] (iSrc (eVar 3)) (gN 18) tYs (eCall 2 f_cells_in (aCons (eVar 4) (aCons (eVar 18) aNil)))) [x0, some (.ref 1), x2, some (.tup (m.zs.map fun z => .str z.1)), some (gD m), some (.lst ((List.range m.n).map (rowD m))), x6, x7, x8, x9, some (nD m.n), some (.tup (m.sm.map cpD)), some (.tup (m.zs.map znD)), x13, x14, x15, x16, x17, x18, x19] S = .ok (.lst (m.zs.map fun z => cellsD z.2)) S := by
    refine eLc_m (emb := fun z : Zn => .str z.1) (xs := m.zs) ?_ (fun z hz => ?_) (by have := hm.zl; omega)
    · simp only [fnS, env0, sSeq, sSet, sRet, sRetN, sIf, sE, sAsg, sPar, sNx, sPut, R.toS, R.bind, eVar, eC, eOp, eTup, eLst, eLstR, aCons, aNil, eIf, eAn, eOr, eNt, eIsi, toB, tNt, tAn, tOr_, tYs, eCall, eCall0, eB, eMt, eMt0, iSrc, iRg1, iRg2, iEn, iZp, gN, gT, gsCons, gsNil, turnS, List.map_cons, List.map_nil, List.length_cons, List.length_nil, List.replicate, List.cons_append, List.nil_append, List.getElem?_cons_zero, List.getElem?_cons_succ, List.set_cons_zero, List.set_cons_succ, Nat.sub_self, Nat.reduceSub, Nat.reduceAdd, if_true, Bool.false_eq_true, if_false, ite_true, ite_false, List.cons.injEq, and_false, false_and, true_and, and_true, decide_false, decide_true, Bool.not_true, Bool.not_false, Bool.true_and, Bool.false_and, Bool.and_true, Bool.and_false, Bool.or_false, Bool.or_true, Bool.false_or, Bool.true_or, Nat.reduceEqDiff, reduceCtorEq, eSl, pSome, pNone, lcT, wipeE, fits_0, fits_1, fits_2, fits_3, fits_4, srcOf]
    · simp only [fnS, env0, sSeq, sSet, sRet, sRetN, sIf, sE, sAsg, sPar, sNx, sPut, R.toS, R.bind, eVar, eC, eOp, eTup, eLst, eLstR, aCons, aNil, eIf, eAn, eOr, eNt, eIsi, toB, tNt, tAn, tOr_, tYs, eCall, eCall0, eB, eMt, eMt0, iSrc, iRg1, iRg2, iEn, iZp, gN, gT, gsCons, gsNil, turnS, List.map_cons, List.map_nil, List.length_cons, List.length_nil, List.replicate, List.cons_append, List.nil_append, List.getElem?_cons_zero, List.getElem?_cons_succ, List.set_cons_zero, List.set_cons_succ, Nat.sub_self, Nat.reduceSub, Nat.reduceAdd, if_true, Bool.false_eq_true, if_false, ite_true, ite_false, List.cons.injEq, and_false, false_and, true_and, and_true, decide_false, decide_true, Bool.not_true, Bool.not_false, Bool.true_and, Bool.false_and, Bool.and_true, Bool.and_false, Bool.or_false, Bool.or_true, Bool.false_or, Bool.true_or, Nat.reduceEqDiff, reduceCtorEq, eSl, pSome, pNone, lcT, wipeE, fits_0, fits_1, fits_2, fits_3, fits_4, p_cells_in hm hz]
  have e2 : (eLc [18, 19] (iSrc (eVar 12)) (gT 2 (gsCons (gN 18) (gsCons (gN 19) gsNil))) tYs (eVar 19)) [x0, some (.ref 1), x2, some (.tup (m.zs.map fun z => .str z.1)), some (gD m), some (.lst ((List.range m.n).map (rowD m))), x6, x7, x8, x9, some (nD m.n), some (.tup (m.sm.map cpD)), some (.tup (m.zs.map znD)), x13, x14, x15, x16, x17, x18, x19] S = .ok (.lst (m.zs.map fun z => cellsD z.2)) S := by
    refine eLc_m (emb := znD) (xs := m.zs) ?_ (fun z hz => ?_) (by have := hm.zl; omega)
    · simp only [fnS, env0, sSeq, sSet, sRet, sRetN, sIf, sE, sAsg, sPar, sNx, sPut, R.toS, R.bind, eVar, eC, eOp, eTup, eLst, eLstR, aCons, aNil, eIf, eAn, eOr, eNt, eIsi, toB, tNt, tAn, tOr_, tYs, eCall, eCall0, eB, eMt, eMt0, iSrc, iRg1, iRg2, iEn, iZp, gN, gT, gsCons, gsNil, turnS, List.map_cons, List.map_nil, List.length_cons, List.length_nil, List.replicate, List.cons_append, List.nil_append, List.getElem?_cons_zero, List.getElem?_cons_succ, List.set_cons_zero, List.set_cons_succ, Nat.sub_self, Nat.reduceSub, Nat.reduceAdd, if_true, Bool.false_eq_true, if_false, ite_true, ite_false, List.cons.injEq, and_false, false_and, true_and, and_true, decide_false, decide_true, Bool.not_true, Bool.not_false, Bool.true_and, Bool.false_and, Bool.and_true, Bool.and_false, Bool.or_false, Bool.or_true, Bool.false_or, Bool.true_or, Nat.reduceEqDiff, reduceCtorEq, eSl, pSome, pNone, lcT, wipeE, fits_0, fits_1, fits_2, fits_3, fits_4, srcOf]
    · simp only [fnS, env0, sSeq, sSet, sRet, sRetN, sIf, sE, sAsg, sPar, sNx, sPut, R.toS, R.bind, eVar, eC, eOp, eTup, eLst, eLstR, aCons, aNil, eIf, eAn, eOr, eNt, eIsi, toB, tNt, tAn, tOr_, tYs, eCall, eCall0, eB, eMt, eMt0, iSrc, iRg1, iRg2, iEn, iZp, gN, gT, gsCons, gsNil, turnS, List.map_cons, List.map_nil, List.length_cons, List.length_nil, List.replicate, List.cons_append, List.nil_append, List.getElem?_cons_zero, List.getElem?_cons_succ, List.set_cons_zero, List.set_cons_succ, Nat.sub_self, Nat.reduceSub, Nat.reduceAdd, if_true, Bool.false_eq_true, if_false, ite_true, ite_false, List.cons.injEq, and_false, false_and, true_and, and_true, decide_false, decide_true, Bool.not_true, Bool.not_false, Bool.true_and, Bool.false_and, Bool.and_true, Bool.and_false, Bool.or_false, Bool.or_true, Bool.false_or, Bool.true_or, Nat.reduceEqDiff, reduceCtorEq, eSl, pSome, pNone, lcT, wipeE, fits_0, fits_1, fits_2, fits_3, fits_4, znD_eq, gT, rd]
  have hal : ∀ S, alike [f4 m, f4 m] S = .ok (.bl true) S := fun S => (f4_sm hm).alike (by decide) (by decide)
  have hn : (m.zs.map (·.1)).map D.str = m.zs.map fun z => .str z.1 := by rw [List.map_map]; rfl
  refine st_iff (S' := S) ?_ st_nx
  revert e1 e2
  generalize (eLc [18] (iSrc (eVar 3)) (gN 18) tYs (eCall 2 f_cells_in (aCons (eVar 4) (aCons (eVar 18) aNil)))) = E1
  generalize (eLc [18, 19] (iSrc (eVar 12)) (gT 2 (gsCons (gN 18) (gsCons (gN 19) gsNil))) tYs (eVar 19)) = E2
  intro e1 e2
  have hF : ∀ S, alike [.lst [.tup (m.zs.map fun z => .str z.1), .tup ((List.range m.n).map (rowD m)), .lst (m.zs.map fun z => cellsD z.2)], .lst [.tup (m.zs.map fun z => .str z.1), .tup ((List.range m.n).map (rowD m)), .lst (m.zs.map fun z => cellsD z.2)]] S = .ok (.bl true) S := hal
  simp only [fnS, env0, sSeq, sSet, sRet, sRetN, sIf, sE, sAsg, sPar, sNx, sPut, R.toS, R.bind, eVar, eC, eOp, eTup, eLst, eLstR, aCons, aNil, eIf, eAn, eOr, eNt, eIsi, toB, tNt, tAn, tOr_, tYs, eCall, eCall0, eB, eMt, eMt0, iSrc, iRg1, iRg2, iEn, iZp, gN, gT, gsCons, gsNil, turnS, List.map_cons, List.map_nil, List.length_cons, List.length_nil, List.replicate, List.cons_append, List.nil_append, List.getElem?_cons_zero, List.getElem?_cons_succ, List.set_cons_zero, List.set_cons_succ, Nat.sub_self, Nat.reduceSub, Nat.reduceAdd, if_true, Bool.false_eq_true, if_false, ite_true, ite_false, List.cons.injEq, and_false, false_and, true_and, and_true, decide_false, decide_true, Bool.not_true, Bool.not_false, Bool.true_and, Bool.false_and, Bool.and_true, Bool.and_false, Bool.or_false, Bool.or_true, Bool.false_or, Bool.true_or, Nat.reduceEqDiff, reduceCtorEq, eSl, pSome, pNone, lcT, wipeE, fits_0, fits_1, fits_2, fits_3, fits_4, p_names_of hm, hn, p_memberships hm, e1, e2, show fits 3 = true from rfl, z_tuple, e_alike, hF]
/-! memberships, cells beside -/
def f5 (m : Gm) : D := .lst ((List.range m.n).map fun c => .lst [rowD m c, nearD m c])
theorem f5_sm {m : Gm} (hm : m.Ok) : Sm 4 20000 (f5 m) := (Sm.lst (L := 8) (k := 3) (w := 2400) (fun d hd => by
  obtain ⟨c, hc, rfl⟩ := List.mem_map.mp hd
  refine (Sm.lst (L := 2) (k := 2) (w := 1181) (fun d hd => ?_) (Nat.le_refl _)).up (by decide) (by decide)
  simp only [List.mem_cons, List.not_mem_nil, or_false] at hd
  rcases hd with rfl | rfl
  · exact (row_sm hm c).up (Nat.le_refl _) (by decide)
  · exact near_sm hm c) (by rw [List.length_map, List.length_range]; exact hm.n)).up (by decide) (by decide)
theorem s_5 {m : Gm} (hm : m.Ok) {x0 x2 x6 x7 x8 x9 x13 x14 x15 x16 x17 x18 x19 : Option D} {S : Sto} : (sIf (tNt (toB (eCall 2 f_law_alike (aCons (eLc [16] (iRg1 (aCons (eVar 10) aNil)) (gN 16) tYs (eLst (aCons (eCall 2 f_membership (aCons (eVar 4) (aCons (eVar 16) aNil))) (aCons (eCall 2 f_beside (aCons (eVar 4) (aCons (eVar 16) aNil))) aNil)))) (aCons (eLc [16] (iRg1 (aCons (eVar 10) aNil)) (gN 16) tYs (eLst (aCons (eOp oIx (eVar 5) (eVar 16)) (aCons (eCall 2 f_law_near (aCons (eVar 4) (aCons (eVar 16) aNil))) aNil)))) aNil))))) (sRet (eC (.bl false))) sNx) [x0, some (.ref 1), x2, some (.tup (m.zs.map fun z => .str z.1)), some (gD m), some (.lst ((List.range m.n).map (rowD m))), x6, x7, x8, x9, some (nD m.n), some (.tup (m.sm.map cpD)), some (.tup (m.zs.map znD)), x13, x14, x15, x16, x17, x18, x19] S = .nx [x0, some (.ref 1), x2, some (.tup (m.zs.map fun z => .str z.1)), some (gD m), some (.lst ((List.range m.n).map (rowD m))), x6, x7, x8, x9, some (nD m.n), some (.tup (m.sm.map cpD)), some (.tup (m.zs.map znD)), x13, x14, x15, x16, x17, x18, x19] S := by
  have e1 : (eLc [16] (iRg1 (aCons (eVar 10) aNil)) (gN 16) tYs (eLst (aCons (eCall 2 f_membership (aCons (eVar 4) (aCons (eVar 16) aNil))) (aCons (eCall 2 f_beside (aCons (eVar 4) (aCons (eVar 16) aNil))) aNil)))) [x0, some (.ref 1), x2, some (.tup (m.zs.map fun z => .str z.1)), some (gD m), some (.lst ((List.range m.n).map (rowD m))), x6, x7, x8, x9, some (nD m.n), some (.tup (m.sm.map cpD)), some (.tup (m.zs.map znD)), x13, x14, x15, x16, x17, x18, x19] S = .ok (f5 m) S := by
    refine eLc_m (emb := nD) (xs := List.range m.n) (rg_many hm rfl) (fun c hc => ?_) (by rw [List.length_range]; have := hm.n; omega)
    have hc := List.mem_range.mp hc
    simp only [fnS, env0, sSeq, sSet, sRet, sRetN, sIf, sE, sAsg, sPar, sNx, sPut, R.toS, R.bind, eVar, eC, eOp, eTup, eLst, eLstR, aCons, aNil, eIf, eAn, eOr, eNt, eIsi, toB, tNt, tAn, tOr_, tYs, eCall, eCall0, eB, eMt, eMt0, iSrc, iRg1, iRg2, iEn, iZp, gN, gT, gsCons, gsNil, turnS, List.map_cons, List.map_nil, List.length_cons, List.length_nil, List.replicate, List.cons_append, List.nil_append, List.getElem?_cons_zero, List.getElem?_cons_succ, List.set_cons_zero, List.set_cons_succ, Nat.sub_self, Nat.reduceSub, Nat.reduceAdd, if_true, Bool.false_eq_true, if_false, ite_true, ite_false, List.cons.injEq, and_false, false_and, true_and, and_true, decide_false, decide_true, Bool.not_true, Bool.not_false, Bool.true_and, Bool.false_and, Bool.and_true, Bool.and_false, Bool.or_false, Bool.or_true, Bool.false_or, Bool.true_or, Nat.reduceEqDiff, reduceCtorEq, eSl, pSome, pNone, lcT, wipeE, fits_0, fits_1, fits_2, fits_3, fits_4, p_membership hm hc, p_beside hm hc, show fits 2 = true from rfl]
  have e2 : (eLc [16] (iRg1 (aCons (eVar 10) aNil)) (gN 16) tYs (eLst (aCons (eOp oIx (eVar 5) (eVar 16)) (aCons (eCall 2 f_law_near (aCons (eVar 4) (aCons (eVar 16) aNil))) aNil)))) [x0, some (.ref 1), x2, some (.tup (m.zs.map fun z => .str z.1)), some (gD m), some (.lst ((List.range m.n).map (rowD m))), x6, x7, x8, x9, some (nD m.n), some (.tup (m.sm.map cpD)), some (.tup (m.zs.map znD)), x13, x14, x15, x16, x17, x18, x19] S = .ok (f5 m) S := by
    refine eLc_m (emb := nD) (xs := List.range m.n) (rg_many hm rfl) (fun c hc => ?_) (by rw [List.length_range]; have := hm.n; omega)
    have hc := List.mem_range.mp hc
    simp only [fnS, env0, sSeq, sSet, sRet, sRetN, sIf, sE, sAsg, sPar, sNx, sPut, R.toS, R.bind, eVar, eC, eOp, eTup, eLst, eLstR, aCons, aNil, eIf, eAn, eOr, eNt, eIsi, toB, tNt, tAn, tOr_, tYs, eCall, eCall0, eB, eMt, eMt0, iSrc, iRg1, iRg2, iEn, iZp, gN, gT, gsCons, gsNil, turnS, List.map_cons, List.map_nil, List.length_cons, List.length_nil, List.replicate, List.cons_append, List.nil_append, List.getElem?_cons_zero, List.getElem?_cons_succ, List.set_cons_zero, List.set_cons_succ, Nat.sub_self, Nat.reduceSub, Nat.reduceAdd, if_true, Bool.false_eq_true, if_false, ite_true, ite_false, List.cons.injEq, and_false, false_and, true_and, and_true, decide_false, decide_true, Bool.not_true, Bool.not_false, Bool.true_and, Bool.false_and, Bool.and_true, Bool.and_false, Bool.or_false, Bool.or_true, Bool.false_or, Bool.true_or, Nat.reduceEqDiff, reduceCtorEq, eSl, pSome, pNone, lcT, wipeE, fits_0, fits_1, fits_2, fits_3, fits_4, row_at hc, p_near hm, show fits 2 = true from rfl]
  have hal : ∀ S, alike [f5 m, f5 m] S = .ok (.bl true) S := fun S => (f5_sm hm).alike (by decide) (by decide)
  refine st_iff (S' := S) ?_ st_nx
  revert e1 e2
  generalize (eLc [16] (iRg1 (aCons (eVar 10) aNil)) (gN 16) tYs (eLst (aCons (eCall 2 f_membership (aCons (eVar 4) (aCons (eVar 16) aNil))) (aCons (eCall 2 f_beside (aCons (eVar 4) (aCons (eVar 16) aNil))) aNil)))) = E1
  generalize (eLc [16] (iRg1 (aCons (eVar 10) aNil)) (gN 16) tYs (eLst (aCons (eOp oIx (eVar 5) (eVar 16)) (aCons (eCall 2 f_law_near (aCons (eVar 4) (aCons (eVar 16) aNil))) aNil)))) = E2
  intro e1 e2
  simp only [fnS, env0, sSeq, sSet, sRet, sRetN, sIf, sE, sAsg, sPar, sNx, sPut, R.toS, R.bind, eVar, eC, eOp, eTup, eLst, eLstR, aCons, aNil, eIf, eAn, eOr, eNt, eIsi, toB, tNt, tAn, tOr_, tYs, eCall, eCall0, eB, eMt, eMt0, iSrc, iRg1, iRg2, iEn, iZp, gN, gT, gsCons, gsNil, turnS, List.map_cons, List.map_nil, List.length_cons, List.length_nil, List.replicate, List.cons_append, List.nil_append, List.getElem?_cons_zero, List.getElem?_cons_succ, List.set_cons_zero, List.set_cons_succ, Nat.sub_self, Nat.reduceSub, Nat.reduceAdd, if_true, Bool.false_eq_true, if_false, ite_true, ite_false, List.cons.injEq, and_false, false_and, true_and, and_true, decide_false, decide_true, Bool.not_true, Bool.not_false, Bool.true_and, Bool.false_and, Bool.and_true, Bool.and_false, Bool.or_false, Bool.or_true, Bool.false_or, Bool.true_or, Nat.reduceEqDiff, reduceCtorEq, eSl, pSome, pNone, lcT, wipeE, fits_0, fits_1, fits_2, fits_3, fits_4, e1, e2, e_alike, hal]
/-! lots -/
theorem lots_ok {m : Gm} (hm : m.Ok) : ∃ ds : List D, (∀ S, f_law_lots [.lst (m.zs.map fun z => .str z.1)] S = .ok (.lst ds) S) ∧ ds.length ≤ 8 ∧ ∀ d ∈ ds, nrf d = true ∧ shp 60 d = true := by
  rcases hm.shape with ⟨a, e⟩ | ⟨a, b, e⟩ | ⟨a, b, c, e⟩ <;> rw [e]
  · refine ⟨_, lots_1, by decide, fun d hd => ?_⟩
    simp only [List.mem_cons, List.not_mem_nil, or_false] at hd
    rcases hd with rfl | rfl <;> exact ⟨rfl, rfl⟩
  · refine ⟨_, lots_2, by decide, fun d hd => ?_⟩
    simp only [List.mem_cons, List.not_mem_nil, or_false] at hd
    rcases hd with rfl | rfl | rfl | rfl <;> exact ⟨rfl, rfl⟩
  · refine ⟨_, lots_3, by decide, fun d hd => ?_⟩
    simp only [List.mem_cons, List.not_mem_nil, or_false] at hd
    rcases hd with rfl | rfl | rfl | rfl | rfl | rfl | rfl | rfl <;> exact ⟨rfl, rfl⟩
theorem with_sm {m : Gm} (hm : m.Ok) (lot : D) : Sm 2 1000 (cellsD (withL m lot)) := (Sm.cells (n := 8) (fun c hc => by
  have := List.mem_range.mp (List.mem_filter.mp hc).1
  have := hm.n
  omega) (by
    have := List.length_filter_le (fun c => eqv (rowD m c) lot) (List.range m.n)
    rw [List.length_range] at this
    exact Nat.le_trans this hm.n)).up (by decide) (by decide)
theorem s_6 {m : Gm} (hm : m.Ok) {x0 x2 x6 x7 x8 x9 x13 x14 x15 x16 x17 x18 x19 : Option D} {S : Sto} : ∃ y6, (sFor (iSrc (eOp oAdd (eCall 1 f_law_lots (aCons (eB oList (aCons (eVar 3) aNil)) aNil)) (eLst (aCons (eTup (aCons (eC (.str [122, 122])) aNil)) (aCons (eC .non) (aCons (eLst (aCons (eC (.str [97])) aNil)) aNil)))))) (gN 6) (sIf (tNt (toB (eCall 2 f_law_alike (aCons (eCall 2 f_cells_with (aCons (eVar 4) (aCons (eVar 6) aNil))) (aCons (eB oTuple (aCons (eLc [16] (iRg1 (aCons (eVar 10) aNil)) (gN 16) (toB (eOp oEq (eOp oIx (eVar 5) (eVar 16)) (eVar 6))) (eVar 16)) aNil)) aNil))))) (sRet (eC (.bl false))) sNx)) [x0, some (.ref 1), x2, some (.tup (m.zs.map fun z => .str z.1)), some (gD m), some (.lst ((List.range m.n).map (rowD m))), x6, x7, x8, x9, some (nD m.n), some (.tup (m.sm.map cpD)), some (.tup (m.zs.map znD)), x13, x14, x15, x16, x17, x18, x19] S = .nx [x0, some (.ref 1), x2, some (.tup (m.zs.map fun z => .str z.1)), some (gD m), some (.lst ((List.range m.n).map (rowD m))), y6, x7, x8, x9, some (nD m.n), some (.tup (m.sm.map cpD)), some (.tup (m.zs.map znD)), x13, x14, x15, x16, x17, x18, x19] S := by
  obtain ⟨ds, hd, hl, hds⟩ := lots_ok hm
  obtain ⟨ρ', S', e, ⟨y6, h2⟩, rfl⟩ := forS_inv (emb := fun d : D => d) (turn := turnS (gN 6) (sIf (tNt (toB (eCall 2 f_law_alike (aCons (eCall 2 f_cells_with (aCons (eVar 4) (aCons (eVar 6) aNil))) (aCons (eB oTuple (aCons (eLc [16] (iRg1 (aCons (eVar 10) aNil)) (gN 16) (toB (eOp oEq (eOp oIx (eVar 5) (eVar 16)) (eVar 6))) (eVar 16)) aNil)) aNil))))) (sRet (eC (.bl false))) sNx)) (fun _ ρ S' => (∃ y6, ρ = [x0, some (.ref 1), x2, some (.tup (m.zs.map fun z => .str z.1)), some (gD m), some (.lst ((List.range m.n).map (rowD m))), y6, x7, x8, x9, some (nD m.n), some (.tup (m.sm.map cpD)), some (.tup (m.zs.map znD)), x13, x14, x15, x16, x17, x18, x19]) ∧ S' = S) (ds ++ [.tup [.str [122, 122]], .non, .lst [.str [97]]]) [x0, some (.ref 1), x2, some (.tup (m.zs.map fun z => .str z.1)), some (gD m), some (.lst ((List.range m.n).map (rowD m))), x6, x7, x8, x9, some (nD m.n), some (.tup (m.sm.map cpD)), some (.tup (m.zs.map znD)), x13, x14, x15, x16, x17, x18, x19] S (by
    rintro done lot rest ρ S' hw ⟨⟨y6, rfl⟩, rfl⟩
    have hv : nrf lot = true ∧ shp 60 lot = true := by
      have : lot ∈ ds ++ [.tup [.str [122, 122]], .non, .lst [.str [97]]] := by rw [← hw]; simp
      rcases List.mem_append.mp this with h | h
      · exact hds lot h
      · simp only [List.mem_cons, List.not_mem_nil, or_false] at h
        rcases h with rfl | rfl | rfl <;> exact ⟨rfl, rfl⟩
    refine ⟨[x0, some (.ref 1), x2, some (.tup (m.zs.map fun z => .str z.1)), some (gD m), some (.lst ((List.range m.n).map (rowD m))), some lot, x7, x8, x9, some (nD m.n), some (.tup (m.sm.map cpD)), some (.tup (m.zs.map znD)), x13, x14, x15, x16, x17, x18, x19], S', ?_, ⟨_, rfl⟩, rfl⟩
    have e1 : (eLc [16] (iRg1 (aCons (eVar 10) aNil)) (gN 16) (toB (eOp oEq (eOp oIx (eVar 5) (eVar 16)) (eVar 6))) (eVar 16)) [x0, some (.ref 1), x2, some (.tup (m.zs.map fun z => .str z.1)), some (gD m), some (.lst ((List.range m.n).map (rowD m))), some lot, x7, x8, x9, some (nD m.n), some (.tup (m.sm.map cpD)), some (.tup (m.zs.map znD)), x13, x14, x15, x16, x17, x18, x19] S' = .ok (.lst ((withL m lot).map nD)) S' := by
      refine eLc_f (emb := nD) (out := nD) _ (xs := List.range m.n) (rg_many hm rfl) (fun c hc => ?_) (by rw [List.length_range]; have := hm.n; omega)
      have hc := List.mem_range.mp hc
      simp only [fnS, env0, sSeq, sSet, sRet, sRetN, sIf, sE, sAsg, sPar, sNx, sPut, R.toS, R.bind, eVar, eC, eOp, eTup, eLst, eLstR, aCons, aNil, eIf, eAn, eOr, eNt, eIsi, toB, tNt, tAn, tOr_, tYs, eCall, eCall0, eB, eMt, eMt0, iSrc, iRg1, iRg2, iEn, iZp, gN, gT, gsCons, gsNil, turnS, List.map_cons, List.map_nil, List.length_cons, List.length_nil, List.replicate, List.cons_append, List.nil_append, List.getElem?_cons_zero, List.getElem?_cons_succ, List.set_cons_zero, List.set_cons_succ, Nat.sub_self, Nat.reduceSub, Nat.reduceAdd, if_true, Bool.false_eq_true, if_false, ite_true, ite_false, List.cons.injEq, and_false, false_and, true_and, and_true, decide_false, decide_true, Bool.not_true, Bool.not_false, Bool.true_and, Bool.false_and, Bool.and_true, Bool.and_false, Bool.or_false, Bool.or_true, Bool.false_or, Bool.true_or, Nat.reduceEqDiff, reduceCtorEq, eSl, pSome, pNone, lcT, wipeE, fits_0, fits_1, fits_2, fits_3, fits_4, row_at hc, eq_row hm hv.1 hv.2]
      exact ite_ok
    have hal : ∀ S, alike [cellsD (withL m lot), .tup ((withL m lot).map nD)] S = .ok (.bl true) S := fun S => (with_sm hm lot).alike (by decide) (by decide)
    show (sIf (tNt (toB (eCall 2 f_law_alike (aCons (eCall 2 f_cells_with (aCons (eVar 4) (aCons (eVar 6) aNil))) (aCons (eB oTuple (aCons (eLc [16] (iRg1 (aCons (eVar 10) aNil)) (gN 16) (toB (eOp oEq (eOp oIx (eVar 5) (eVar 16)) (eVar 6))) (eVar 16)) aNil)) aNil))))) (sRet (eC (.bl false))) sNx) [x0, some (.ref 1), x2, some (.tup (m.zs.map fun z => .str z.1)), some (gD m), some (.lst ((List.range m.n).map (rowD m))), some lot, x7, x8, x9, some (nD m.n), some (.tup (m.sm.map cpD)), some (.tup (m.zs.map znD)), x13, x14, x15, x16, x17, x18, x19] S' = _
    refine st_iff (S' := S') ?_ st_nx
    revert e1
    generalize (eLc [16] (iRg1 (aCons (eVar 10) aNil)) (gN 16) (toB (eOp oEq (eOp oIx (eVar 5) (eVar 16)) (eVar 6))) (eVar 16)) = E1
    intro e1
    simp only [fnS, env0, sSeq, sSet, sRet, sRetN, sIf, sE, sAsg, sPar, sNx, sPut, R.toS, R.bind, eVar, eC, eOp, eTup, eLst, eLstR, aCons, aNil, eIf, eAn, eOr, eNt, eIsi, toB, tNt, tAn, tOr_, tYs, eCall, eCall0, eB, eMt, eMt0, iSrc, iRg1, iRg2, iEn, iZp, gN, gT, gsCons, gsNil, turnS, List.map_cons, List.map_nil, List.length_cons, List.length_nil, List.replicate, List.cons_append, List.nil_append, List.getElem?_cons_zero, List.getElem?_cons_succ, List.set_cons_zero, List.set_cons_succ, Nat.sub_self, Nat.reduceSub, Nat.reduceAdd, if_true, Bool.false_eq_true, if_false, ite_true, ite_false, List.cons.injEq, and_false, false_and, true_and, and_true, decide_false, decide_true, Bool.not_true, Bool.not_false, Bool.true_and, Bool.false_and, Bool.and_true, Bool.and_false, Bool.or_false, Bool.or_true, Bool.false_or, Bool.true_or, Nat.reduceEqDiff, reduceCtorEq, eSl, pSome, pNone, lcT, wipeE, fits_0, fits_1, fits_2, fits_3, fits_4, p_cells_with hm hv.1 hv.2, e1, z_tuple, e_alike, hal]) ⟨⟨x6, rfl⟩, rfl⟩
  subst h2
  refine ⟨y6, st_for (S := S') (ds := ds ++ [.tup [.str [122, 122]], .non, .lst [.str [97]]]) ?_ (by rw [List.map_id'] at e; exact e)⟩
  have ha : ∀ S, oAdd (.lst ds) (.lst [.tup [.str [122, 122]], .non, .lst [.str [97]]]) S = .ok (.lst (ds ++ [.tup [.str [122, 122]], .non, .lst [.str [97]]])) S := fun S => z_addL (by simp only [List.length_cons, List.length_nil]; omega)
  simp only [fnS, env0, sSeq, sSet, sRet, sRetN, sIf, sE, sAsg, sPar, sNx, sPut, R.toS, R.bind, eVar, eC, eOp, eTup, eLst, eLstR, aCons, aNil, eIf, eAn, eOr, eNt, eIsi, toB, tNt, tAn, tOr_, tYs, eCall, eCall0, eB, eMt, eMt0, iSrc, iRg1, iRg2, iEn, iZp, gN, gT, gsCons, gsNil, turnS, List.map_cons, List.map_nil, List.length_cons, List.length_nil, List.replicate, List.cons_append, List.nil_append, List.getElem?_cons_zero, List.getElem?_cons_succ, List.set_cons_zero, List.set_cons_succ, Nat.sub_self, Nat.reduceSub, Nat.reduceAdd, if_true, Bool.false_eq_true, if_false, ite_true, ite_false, List.cons.injEq, and_false, false_and, true_and, and_true, decide_false, decide_true, Bool.not_true, Bool.not_false, Bool.true_and, Bool.false_and, Bool.and_true, Bool.and_false, Bool.or_false, Bool.or_true, Bool.false_or, Bool.true_or, Nat.reduceEqDiff, reduceCtorEq, eSl, pSome, pNone, lcT, wipeE, fits_0, fits_1, fits_2, fits_3, fits_4, z_list, hd, show fits 1 = true from rfl, show fits 3 = true from rfl, ha, srcOf]
/-! seams of couples of cells -/
theorem s_7i {m : Gm} (hm : m.Ok) {a : Nat} (ha : a < m.n) {x0 x2 x6 x8 x9 x13 x14 x15 x16 x17 x18 x19 : Option D} {S : Sto} : ∃ y13, (sFor (iRg1 (aCons (eVar 10) aNil)) (gN 13) (sIf (tNt (toB (eCall 2 f_law_alike (aCons (eCall 3 f_has_seam (aCons (eVar 4) (aCons (eVar 7) (aCons (eVar 13) aNil)))) (aCons (eOp oIn (eTup (aCons (eB oMin (aCons (eVar 7) (aCons (eVar 13) aNil))) (aCons (eB oMax (aCons (eVar 7) (aCons (eVar 13) aNil))) aNil))) (eVar 11)) aNil))))) (sRet (eC (.bl false))) sNx)) [x0, some (.ref 1), x2, some (.tup (m.zs.map fun z => .str z.1)), some (gD m), some (.lst ((List.range m.n).map (rowD m))), x6, some (nD a), x8, x9, some (nD m.n), some (.tup (m.sm.map cpD)), some (.tup (m.zs.map znD)), x13, x14, x15, x16, x17, x18, x19] S = .nx [x0, some (.ref 1), x2, some (.tup (m.zs.map fun z => .str z.1)), some (gD m), some (.lst ((List.range m.n).map (rowD m))), x6, some (nD a), x8, x9, some (nD m.n), some (.tup (m.sm.map cpD)), some (.tup (m.zs.map znD)), y13, x14, x15, x16, x17, x18, x19] S := by
  obtain ⟨ρ', S', e, ⟨y13, h2⟩, rfl⟩ := forS_inv (emb := nD) (turn := turnS (gN 13) (sIf (tNt (toB (eCall 2 f_law_alike (aCons (eCall 3 f_has_seam (aCons (eVar 4) (aCons (eVar 7) (aCons (eVar 13) aNil)))) (aCons (eOp oIn (eTup (aCons (eB oMin (aCons (eVar 7) (aCons (eVar 13) aNil))) (aCons (eB oMax (aCons (eVar 7) (aCons (eVar 13) aNil))) aNil))) (eVar 11)) aNil))))) (sRet (eC (.bl false))) sNx)) (fun _ ρ S' => (∃ y13, ρ = [x0, some (.ref 1), x2, some (.tup (m.zs.map fun z => .str z.1)), some (gD m), some (.lst ((List.range m.n).map (rowD m))), x6, some (nD a), x8, x9, some (nD m.n), some (.tup (m.sm.map cpD)), some (.tup (m.zs.map znD)), y13, x14, x15, x16, x17, x18, x19]) ∧ S' = S) (List.range m.n) [x0, some (.ref 1), x2, some (.tup (m.zs.map fun z => .str z.1)), some (gD m), some (.lst ((List.range m.n).map (rowD m))), x6, some (nD a), x8, x9, some (nD m.n), some (.tup (m.sm.map cpD)), some (.tup (m.zs.map znD)), x13, x14, x15, x16, x17, x18, x19] S (by
    rintro done b rest ρ S' hw ⟨⟨y13, rfl⟩, rfl⟩
    have hb : b < m.n := List.mem_range.mp (by rw [← hw]; simp)
    refine ⟨[x0, some (.ref 1), x2, some (.tup (m.zs.map fun z => .str z.1)), some (gD m), some (.lst ((List.range m.n).map (rowD m))), x6, some (nD a), x8, x9, some (nD m.n), some (.tup (m.sm.map cpD)), some (.tup (m.zs.map znD)), some (nD b), x14, x15, x16, x17, x18, x19], S', ?_, ⟨_, rfl⟩, rfl⟩
    show (sIf (tNt (toB (eCall 2 f_law_alike (aCons (eCall 3 f_has_seam (aCons (eVar 4) (aCons (eVar 7) (aCons (eVar 13) aNil)))) (aCons (eOp oIn (eTup (aCons (eB oMin (aCons (eVar 7) (aCons (eVar 13) aNil))) (aCons (eB oMax (aCons (eVar 7) (aCons (eVar 13) aNil))) aNil))) (eVar 11)) aNil))))) (sRet (eC (.bl false))) sNx) [x0, some (.ref 1), x2, some (.tup (m.zs.map fun z => .str z.1)), some (gD m), some (.lst ((List.range m.n).map (rowD m))), x6, some (nD a), x8, x9, some (nD m.n), some (.tup (m.sm.map cpD)), some (.tup (m.zs.map znD)), some (nD b), x14, x15, x16, x17, x18, x19] S' = _
    refine st_iff (S' := S') ?_ st_nx
    have h1 : ∀ S, oMin [nD a, nD b] S = .ok (.int (if (b : Int) < a then b else a)) S := fun _ => rfl
    have h2 : ∀ S, oMax [nD a, nD b] S = .ok (.int (if (b : Int) > a then b else a)) S := fun _ => rfl
    have hal : ∀ (c : Bool) S, alike [.bl c, .bl c] S = .ok (.bl true) S := fun c S => alike_bl
    simp only [fnS, env0, sSeq, sSet, sRet, sRetN, sIf, sE, sAsg, sPar, sNx, sPut, R.toS, R.bind, eVar, eC, eOp, eTup, eLst, eLstR, aCons, aNil, eIf, eAn, eOr, eNt, eIsi, toB, tNt, tAn, tOr_, tYs, eCall, eCall0, eB, eMt, eMt0, iSrc, iRg1, iRg2, iEn, iZp, gN, gT, gsCons, gsNil, turnS, List.map_cons, List.map_nil, List.length_cons, List.length_nil, List.replicate, List.cons_append, List.nil_append, List.getElem?_cons_zero, List.getElem?_cons_succ, List.set_cons_zero, List.set_cons_succ, Nat.sub_self, Nat.reduceSub, Nat.reduceAdd, if_true, Bool.false_eq_true, if_false, ite_true, ite_false, List.cons.injEq, and_false, false_and, true_and, and_true, decide_false, decide_true, Bool.not_true, Bool.not_false, Bool.true_and, Bool.false_and, Bool.and_true, Bool.and_false, Bool.or_false, Bool.or_true, Bool.false_or, Bool.true_or, Nat.reduceEqDiff, reduceCtorEq, eSl, pSome, pNone, lcT, wipeE, fits_0, fits_1, fits_2, fits_3, fits_4, p_has_seam ha hb, h1, h2, show fits 2 = true from rfl, in_seams, e_alike, hal]) ⟨⟨x13, rfl⟩, rfl⟩
  subst h2
  exact ⟨y13, st_for (S := S') (rg_many hm rfl) e⟩
theorem s_7 {m : Gm} (hm : m.Ok) {x0 x2 x6 x7 x8 x9 x13 x14 x15 x16 x17 x18 x19 : Option D} {S : Sto} : ∃ y7 y13, (sFor (iRg1 (aCons (eVar 10) aNil)) (gN 7) (sFor (iRg1 (aCons (eVar 10) aNil)) (gN 13) (sIf (tNt (toB (eCall 2 f_law_alike (aCons (eCall 3 f_has_seam (aCons (eVar 4) (aCons (eVar 7) (aCons (eVar 13) aNil)))) (aCons (eOp oIn (eTup (aCons (eB oMin (aCons (eVar 7) (aCons (eVar 13) aNil))) (aCons (eB oMax (aCons (eVar 7) (aCons (eVar 13) aNil))) aNil))) (eVar 11)) aNil))))) (sRet (eC (.bl false))) sNx))) [x0, some (.ref 1), x2, some (.tup (m.zs.map fun z => .str z.1)), some (gD m), some (.lst ((List.range m.n).map (rowD m))), x6, x7, x8, x9, some (nD m.n), some (.tup (m.sm.map cpD)), some (.tup (m.zs.map znD)), x13, x14, x15, x16, x17, x18, x19] S = .nx [x0, some (.ref 1), x2, some (.tup (m.zs.map fun z => .str z.1)), some (gD m), some (.lst ((List.range m.n).map (rowD m))), x6, y7, x8, x9, some (nD m.n), some (.tup (m.sm.map cpD)), some (.tup (m.zs.map znD)), y13, x14, x15, x16, x17, x18, x19] S := by
  obtain ⟨ρ', S', e, ⟨y7, y13, h2⟩, rfl⟩ := forS_inv (emb := nD) (turn := turnS (gN 7) (sFor (iRg1 (aCons (eVar 10) aNil)) (gN 13) (sIf (tNt (toB (eCall 2 f_law_alike (aCons (eCall 3 f_has_seam (aCons (eVar 4) (aCons (eVar 7) (aCons (eVar 13) aNil)))) (aCons (eOp oIn (eTup (aCons (eB oMin (aCons (eVar 7) (aCons (eVar 13) aNil))) (aCons (eB oMax (aCons (eVar 7) (aCons (eVar 13) aNil))) aNil))) (eVar 11)) aNil))))) (sRet (eC (.bl false))) sNx))) (fun _ ρ S' => (∃ y7 y13, ρ = [x0, some (.ref 1), x2, some (.tup (m.zs.map fun z => .str z.1)), some (gD m), some (.lst ((List.range m.n).map (rowD m))), x6, y7, x8, x9, some (nD m.n), some (.tup (m.sm.map cpD)), some (.tup (m.zs.map znD)), y13, x14, x15, x16, x17, x18, x19]) ∧ S' = S) (List.range m.n) [x0, some (.ref 1), x2, some (.tup (m.zs.map fun z => .str z.1)), some (gD m), some (.lst ((List.range m.n).map (rowD m))), x6, x7, x8, x9, some (nD m.n), some (.tup (m.sm.map cpD)), some (.tup (m.zs.map znD)), x13, x14, x15, x16, x17, x18, x19] S (by
    rintro done a rest ρ S' hw ⟨⟨y7, y13, rfl⟩, rfl⟩
    have ha : a < m.n := List.mem_range.mp (by rw [← hw]; simp)
    obtain ⟨z13, e⟩ := s_7i (S := S') (x0 := x0) (x2 := x2) (x6 := x6) (x8 := x8) (x9 := x9) (x13 := y13) (x14 := x14) (x15 := x15) (x16 := x16) (x17 := x17) (x18 := x18) (x19 := x19) hm ha
    exact ⟨_, S', e, ⟨_, _, rfl⟩, rfl⟩) ⟨⟨x7, x13, rfl⟩, rfl⟩
  subst h2
  exact ⟨y7, y13, st_for (S := S') (rg_many hm rfl) e⟩
/-! two lots of cells, the seams between -/
theorem s_8 {m : Gm} (hm : m.Ok) {x0 x2 x6 x7 x8 x9 x13 x14 x15 x16 x17 x18 x19 : Option D} {S : Sto} (hb : Bg 1 S) : ∃ (l1 l2 : List Nat) (S' : Sto), l1.Sublist (List.range m.n) ∧ l2.Sublist (List.range m.n) ∧ Nxt 1 S S' ∧ (sAsg (gTL 2 (gsCons (gN 14) (gsCons (gN 15) gsNil))) (eLc [17] (iRg1 (aCons (eC (.int 2)) aNil)) (gN 17) tYs (eB oTuple (aCons (eLc [16] (iRg1 (aCons (eVar 10) aNil)) (gN 16) (toB (eOp oEq (eCall 2 f_law_take (aCons (eVar 1) (aCons (eC (.int 2)) aNil))) (eC (.int 0)))) (eVar 16)) aNil)))) [x0, some (.ref 1), x2, some (.tup (m.zs.map fun z => .str z.1)), some (gD m), some (.lst ((List.range m.n).map (rowD m))), x6, x7, x8, x9, some (nD m.n), some (.tup (m.sm.map cpD)), some (.tup (m.zs.map znD)), x13, x14, x15, x16, x17, x18, x19] S = .nx [x0, some (.ref 1), x2, some (.tup (m.zs.map fun z => .str z.1)), some (gD m), some (.lst ((List.range m.n).map (rowD m))), x6, x7, x8, x9, some (nD m.n), some (.tup (m.sm.map cpD)), some (.tup (m.zs.map znD)), x13, some (cellsD l1), some (cellsD l2), x16, x17, x18, x19] S' := by
  obtain ⟨bs, S', e, q, l, n⟩ := eLc_eff (vs := [17]) (mi := (iRg1 (aCons (eC (.int 2)) aNil))) (g := (gN 17)) (t := tYs) (e := (eB oTuple (aCons (eLc [16] (iRg1 (aCons (eVar 10) aNil)) (gN 16) (toB (eOp oEq (eCall 2 f_law_take (aCons (eVar 1) (aCons (eC (.int 2)) aNil))) (eC (.int 0)))) (eVar 16)) aNil))) (ρ := [x0, some (.ref 1), x2, some (.tup (m.zs.map fun z => .str z.1)), some (gD m), some (.lst ((List.range m.n).map (rowD m))), x6, x7, x8, x9, some (nD m.n), some (.tup (m.sm.map cpD)), some (.tup (m.zs.map znD)), x13, x14, x15, x16, x17, x18, x19]) (S := S) (S1 := S) (ds := [.int 0, .int 1]) (out := cellsD) (fun l => l.Sublist (List.range m.n)) rfl (Nxt.refl hb) (fun d _ S hS => by
    obtain ⟨ys, S', sub, e, nx⟩ := eLc_sub (vs := [16]) (mi := (iRg1 (aCons (eVar 10) aNil))) (g := (gN 16)) (t := (toB (eOp oEq (eCall 2 f_law_take (aCons (eVar 1) (aCons (eC (.int 2)) aNil))) (eC (.int 0))))) (e := (eVar 16)) (ρ := [x0, some (.ref 1), x2, some (.tup (m.zs.map fun z => .str z.1)), some (gD m), some (.lst ((List.range m.n).map (rowD m))), x6, x7, x8, x9, some (nD m.n), some (.tup (m.sm.map cpD)), some (.tup (m.zs.map znD)), x13, x14, x15, x16, some d, x18, x19]) (S := S) (S1 := S) (emb := nD) (out := nD) (xs := List.range m.n) (rg_many hm rfl) (Nxt.refl hS) (fun c hc S hS => by
      obtain ⟨v, S', e, _, nx⟩ := take_nat (many := 2) hS (by decide) (by decide)
      have e : f_law_take [.ref 1, .int 2] S = .ok (.int v) S' := e
      refine ⟨decide ((v : Int) = 0), S', ?_, nx⟩
      simp only [fnS, env0, sSeq, sSet, sRet, sRetN, sIf, sE, sAsg, sPar, sNx, sPut, R.toS, R.bind, eVar, eC, eOp, eTup, eLst, eLstR, aCons, aNil, eIf, eAn, eOr, eNt, eIsi, toB, tNt, tAn, tOr_, tYs, eCall, eCall0, eB, eMt, eMt0, iSrc, iRg1, iRg2, iEn, iZp, gN, gT, gsCons, gsNil, turnS, List.map_cons, List.map_nil, List.length_cons, List.length_nil, List.replicate, List.cons_append, List.nil_append, List.getElem?_cons_zero, List.getElem?_cons_succ, List.set_cons_zero, List.set_cons_succ, Nat.sub_self, Nat.reduceSub, Nat.reduceAdd, if_true, Bool.false_eq_true, if_false, ite_true, ite_false, List.cons.injEq, and_false, false_and, true_and, and_true, decide_false, decide_true, Bool.not_true, Bool.not_false, Bool.true_and, Bool.false_and, Bool.and_true, Bool.and_false, Bool.or_false, Bool.or_true, Bool.false_or, Bool.true_or, Nat.reduceEqDiff, reduceCtorEq, eSl, pSome, pNone, lcT, wipeE, fits_0, fits_1, fits_2, fits_3, fits_4, e, z_eqi]
      exact ite_ok) (by rw [List.length_range]; have := hm.n; omega)
    refine ⟨ys, S', ?_, sub, nx⟩
    show lcT (gN 17) tYs (eB oTuple (aCons _ aNil)) (wipeE [x0, some (.ref 1), x2, some (.tup (m.zs.map fun z => .str z.1)), some (gD m), some (.lst ((List.range m.n).map (rowD m))), x6, x7, x8, x9, some (nD m.n), some (.tup (m.sm.map cpD)), some (.tup (m.zs.map znD)), x13, x14, x15, x16, x17, x18, x19] [17]) d S = _
    have e : (eLc [16] (iRg1 (aCons (eVar 10) aNil)) (gN 16) (toB (eOp oEq (eCall 2 f_law_take (aCons (eVar 1) (aCons (eC (.int 2)) aNil))) (eC (.int 0)))) (eVar 16)) [x0, some (.ref 1), x2, some (.tup (m.zs.map fun z => .str z.1)), some (gD m), some (.lst ((List.range m.n).map (rowD m))), x6, x7, x8, x9, some (nD m.n), some (.tup (m.sm.map cpD)), some (.tup (m.zs.map znD)), x13, x14, x15, x16, some d, x18, x19] S = .ok (.lst (ys.map nD)) S' := e
    revert e
    generalize (eLc [16] (iRg1 (aCons (eVar 10) aNil)) (gN 16) (toB (eOp oEq (eCall 2 f_law_take (aCons (eVar 1) (aCons (eC (.int 2)) aNil))) (eC (.int 0)))) (eVar 16)) = E
    intro e
    simp only [fnS, env0, sSeq, sSet, sRet, sRetN, sIf, sE, sAsg, sPar, sNx, sPut, R.toS, R.bind, eVar, eC, eOp, eTup, eLst, eLstR, aCons, aNil, eIf, eAn, eOr, eNt, eIsi, toB, tNt, tAn, tOr_, tYs, eCall, eCall0, eB, eMt, eMt0, iSrc, iRg1, iRg2, iEn, iZp, gN, gT, gsCons, gsNil, turnS, List.map_cons, List.map_nil, List.length_cons, List.length_nil, List.replicate, List.cons_append, List.nil_append, List.getElem?_cons_zero, List.getElem?_cons_succ, List.set_cons_zero, List.set_cons_succ, Nat.sub_self, Nat.reduceSub, Nat.reduceAdd, if_true, Bool.false_eq_true, if_false, ite_true, ite_false, List.cons.injEq, and_false, false_and, true_and, and_true, decide_false, decide_true, Bool.not_true, Bool.not_false, Bool.true_and, Bool.false_and, Bool.and_true, Bool.and_false, Bool.or_false, Bool.or_true, Bool.false_or, Bool.true_or, Nat.reduceEqDiff, reduceCtorEq, eSl, pSome, pNone, lcT, wipeE, fits_0, fits_1, fits_2, fits_3, fits_4, e, z_tuple, cellsD]) (by decide)
  have hl : bs.length = 2 := l
  match bs, hl, q, e with
  | [l1, l2], _, q, e =>
    refine ⟨l1, l2, S', q _ (by simp), q _ (by simp), n, ?_⟩
    have e : (eLc [17] (iRg1 (aCons (eC (.int 2)) aNil)) (gN 17) tYs (eB oTuple (aCons (eLc [16] (iRg1 (aCons (eVar 10) aNil)) (gN 16) (toB (eOp oEq (eCall 2 f_law_take (aCons (eVar 1) (aCons (eC (.int 2)) aNil))) (eC (.int 0)))) (eVar 16)) aNil))) [x0, some (.ref 1), x2, some (.tup (m.zs.map fun z => .str z.1)), some (gD m), some (.lst ((List.range m.n).map (rowD m))), x6, x7, x8, x9, some (nD m.n), some (.tup (m.sm.map cpD)), some (.tup (m.zs.map znD)), x13, x14, x15, x16, x17, x18, x19] S = .ok (.lst [cellsD l1, cellsD l2]) S' := e
    show sAsg _ _ _ _ = _
    revert e
    generalize (eLc [17] (iRg1 (aCons (eC (.int 2)) aNil)) (gN 17) tYs (eB oTuple (aCons (eLc [16] (iRg1 (aCons (eVar 10) aNil)) (gN 16) (toB (eOp oEq (eCall 2 f_law_take (aCons (eVar 1) (aCons (eC (.int 2)) aNil))) (eC (.int 0)))) (eVar 16)) aNil))) = E
    intro e
    simp only [fnS, env0, sSeq, sSet, sRet, sRetN, sIf, sE, sAsg, sPar, sNx, sPut, R.toS, R.bind, eVar, eC, eOp, eTup, eLst, eLstR, aCons, aNil, eIf, eAn, eOr, eNt, eIsi, toB, tNt, tAn, tOr_, tYs, eCall, eCall0, eB, eMt, eMt0, iSrc, iRg1, iRg2, iEn, iZp, gN, gT, gsCons, gsNil, turnS, List.map_cons, List.map_nil, List.length_cons, List.length_nil, List.replicate, List.cons_append, List.nil_append, List.getElem?_cons_zero, List.getElem?_cons_succ, List.set_cons_zero, List.set_cons_succ, Nat.sub_self, Nat.reduceSub, Nat.reduceAdd, if_true, Bool.false_eq_true, if_false, ite_true, ite_false, List.cons.injEq, and_false, false_and, true_and, and_true, decide_false, decide_true, Bool.not_true, Bool.not_false, Bool.true_and, Bool.false_and, Bool.and_true, Bool.and_false, Bool.or_false, Bool.or_true, Bool.false_or, Bool.true_or, Nat.reduceEqDiff, reduceCtorEq, eSl, pSome, pNone, lcT, wipeE, fits_0, fits_1, fits_2, fits_3, fits_4, sAsg, e, gTL, rd]
theorem seams_turn (m : Gm) (l1 l2 : List Nat) : seamsOf m l2.reverse l1 = seamsOf m l1 l2 := by
  unfold seamsOf
  congr 1
  funext p
  unfold meets
  have h : ∀ c, l2.reverse.contains c = l2.contains c := fun c => by rw [Bool.eq_iff_iff]; simp
  rw [h, h]
  cases l1.contains p.1 <;> cases l1.contains p.2 <;> cases l2.contains p.1 <;> cases l2.contains p.2 <;> rfl
theorem seams_sm {m : Gm} (hm : m.Ok) (l1 l2 : List Nat) : Sm 3 2000 (seamsD (seamsOf m l1 l2)) := (Sm.tup (L := 28) (k := 2) (w := 47) (fun d hd => by
  obtain ⟨p, hp, rfl⟩ := List.mem_map.mp hd
  have := hm.sm p (List.mem_filter.mp hp).1
  have := hm.n
  exact Sm.cp (by omega) (by omega)) (by
    rw [List.length_map]
    exact Nat.le_trans (List.length_filter_le _ _) hm.sl28)).up (by decide) (by decide)
theorem s_9 {m : Gm} (hm : m.Ok) {l1 l2 : List Nat} (h1 : l1.Sublist (List.range m.n)) (h2 : l2.Sublist (List.range m.n)) {x0 x2 x6 x7 x8 x9 x13 x16 x17 x18 x19 : Option D} {S : Sto} : (sIf (tNt (toB (eCall 2 f_law_alike (aCons (eLst (aCons (eCall 3 f_seams_between (aCons (eVar 4) (aCons (eVar 14) (aCons (eVar 15) aNil)))) (aCons (eCall 3 f_seams_between (aCons (eVar 4) (aCons (eRev (eVar 15)) (aCons (eVar 14) aNil)))) aNil))) (aCons (eRepL (aCons (eCall 3 f_law_seams_of (aCons (eVar 4) (aCons (eVar 14) (aCons (eVar 15) aNil)))) aNil) (eC (.int 2))) aNil))))) (sRet (eC (.bl false))) sNx) [x0, some (.ref 1), x2, some (.tup (m.zs.map fun z => .str z.1)), some (gD m), some (.lst ((List.range m.n).map (rowD m))), x6, x7, x8, x9, some (nD m.n), some (.tup (m.sm.map cpD)), some (.tup (m.zs.map znD)), x13, some (cellsD l1), some (cellsD l2), x16, x17, x18, x19] S = .nx [x0, some (.ref 1), x2, some (.tup (m.zs.map fun z => .str z.1)), some (gD m), some (.lst ((List.range m.n).map (rowD m))), x6, x7, x8, x9, some (nD m.n), some (.tup (m.sm.map cpD)), some (.tup (m.zs.map znD)), x13, some (cellsD l1), some (cellsD l2), x16, x17, x18, x19] S := by
  have a1 : ∀ c ∈ l1, c < m.n := fun c hc => List.mem_range.mp (h1.subset hc)
  have a2 : ∀ c ∈ l2, c < m.n := fun c hc => List.mem_range.mp (h2.subset hc)
  have a3 : ∀ c ∈ l2.reverse, c < m.n := fun c hc => a2 c (List.mem_reverse.mp hc)
  have n1 : l1.Nodup := h1.nodup List.nodup_range
  have n2 : l2.Nodup := h2.nodup List.nodup_range
  have n3 : l2.reverse.Nodup := by rw [List.Nodup, List.pairwise_reverse]; exact n2.imp fun h => h.symm
  have k1 : l1.length ≤ 1000 := by have := h1.length_le; rw [List.length_range] at this; have := hm.n; omega
  have k2 : l2.length ≤ 1000 := by have := h2.length_le; rw [List.length_range] at this; have := hm.n; omega
  have k3 : l2.reverse.length ≤ 1000 := by rw [List.length_reverse]; exact k2
  have b1 := fun S => p_seams_between hm a1 a2 n1 n2 k1 k2 S
  have b2 := fun S => p_seams_between hm a3 a1 n3 n1 k3 k1 S
  have b3 := fun S => q_seams_of (l1 := l1) (l2 := l2) hm S
  have er : (eRev (eVar 15)) [x0, some (.ref 1), x2, some (.tup (m.zs.map fun z => .str z.1)), some (gD m), some (.lst ((List.range m.n).map (rowD m))), x6, x7, x8, x9, some (nD m.n), some (.tup (m.sm.map cpD)), some (.tup (m.zs.map znD)), x13, some (cellsD l1), some (cellsD l2), x16, x17, x18, x19] S = .ok (cellsD l2.reverse) S := by
    show R.ok (D.tup (l2.map nD).reverse) S = _
    rw [← List.map_reverse]
    rfl
  have hal : ∀ S, alike [.lst [seamsD (seamsOf m l1 l2), seamsD (seamsOf m l1 l2)], .lst [seamsD (seamsOf m l1 l2), seamsD (seamsOf m l1 l2)]] S = .ok (.bl true) S := fun S => (Sm.lst (L := 2) (k := 3) (w := 2000) (fun d hd => by
    simp only [List.mem_cons, List.not_mem_nil, or_false, or_self] at hd
    subst hd
    exact seams_sm hm l1 l2) (Nat.le_refl _)).alike (by decide) (by decide)
  have e1 : (eLst (aCons (eCall 3 f_seams_between (aCons (eVar 4) (aCons (eVar 14) (aCons (eVar 15) aNil)))) (aCons (eCall 3 f_seams_between (aCons (eVar 4) (aCons (eRev (eVar 15)) (aCons (eVar 14) aNil)))) aNil))) [x0, some (.ref 1), x2, some (.tup (m.zs.map fun z => .str z.1)), some (gD m), some (.lst ((List.range m.n).map (rowD m))), x6, x7, x8, x9, some (nD m.n), some (.tup (m.sm.map cpD)), some (.tup (m.zs.map znD)), x13, some (cellsD l1), some (cellsD l2), x16, x17, x18, x19] S = .ok (.lst [seamsD (seamsOf m l1 l2), seamsD (seamsOf m l1 l2)]) S := by
    revert er
    generalize (eRev (eVar 15)) = E
    intro er
    simp only [fnS, env0, sSeq, sSet, sRet, sRetN, sIf, sE, sAsg, sPar, sNx, sPut, R.toS, R.bind, eVar, eC, eOp, eTup, eLst, eLstR, aCons, aNil, eIf, eAn, eOr, eNt, eIsi, toB, tNt, tAn, tOr_, tYs, eCall, eCall0, eB, eMt, eMt0, iSrc, iRg1, iRg2, iEn, iZp, gN, gT, gsCons, gsNil, turnS, List.map_cons, List.map_nil, List.length_cons, List.length_nil, List.replicate, List.cons_append, List.nil_append, List.getElem?_cons_zero, List.getElem?_cons_succ, List.set_cons_zero, List.set_cons_succ, Nat.sub_self, Nat.reduceSub, Nat.reduceAdd, if_true, Bool.false_eq_true, if_false, ite_true, ite_false, List.cons.injEq, and_false, false_and, true_and, and_true, decide_false, decide_true, Bool.not_true, Bool.not_false, Bool.true_and, Bool.false_and, Bool.and_true, Bool.and_false, Bool.or_false, Bool.or_true, Bool.false_or, Bool.true_or, Nat.reduceEqDiff, reduceCtorEq, eSl, pSome, pNone, lcT, wipeE, fits_0, fits_1, fits_2, fits_3, fits_4, er, b1, b2, seams_turn, show fits 2 = true from rfl]
  have e2 : (eRepL (aCons (eCall 3 f_law_seams_of (aCons (eVar 4) (aCons (eVar 14) (aCons (eVar 15) aNil)))) aNil) (eC (.int 2))) [x0, some (.ref 1), x2, some (.tup (m.zs.map fun z => .str z.1)), some (gD m), some (.lst ((List.range m.n).map (rowD m))), x6, x7, x8, x9, some (nD m.n), some (.tup (m.sm.map cpD)), some (.tup (m.zs.map znD)), x13, some (cellsD l1), some (cellsD l2), x16, x17, x18, x19] S = .ok (.lst [seamsD (seamsOf m l1 l2), seamsD (seamsOf m l1 l2)]) S := by
    unfold eRepL
    have : aCons (eCall 3 f_law_seams_of (aCons (eVar 4) (aCons (eVar 14) (aCons (eVar 15) aNil)))) aNil [x0, some (.ref 1), x2, some (.tup (m.zs.map fun z => .str z.1)), some (gD m), some (.lst ((List.range m.n).map (rowD m))), x6, x7, x8, x9, some (nD m.n), some (.tup (m.sm.map cpD)), some (.tup (m.zs.map znD)), x13, some (cellsD l1), some (cellsD l2), x16, x17, x18, x19] S = .ok [seamsD (seamsOf m l1 l2)] S := by simp only [fnS, env0, sSeq, sSet, sRet, sRetN, sIf, sE, sAsg, sPar, sNx, sPut, R.toS, R.bind, eVar, eC, eOp, eTup, eLst, eLstR, aCons, aNil, eIf, eAn, eOr, eNt, eIsi, toB, tNt, tAn, tOr_, tYs, eCall, eCall0, eB, eMt, eMt0, iSrc, iRg1, iRg2, iEn, iZp, gN, gT, gsCons, gsNil, turnS, List.map_cons, List.map_nil, List.length_cons, List.length_nil, List.replicate, List.cons_append, List.nil_append, List.getElem?_cons_zero, List.getElem?_cons_succ, List.set_cons_zero, List.set_cons_succ, Nat.sub_self, Nat.reduceSub, Nat.reduceAdd, if_true, Bool.false_eq_true, if_false, ite_true, ite_false, List.cons.injEq, and_false, false_and, true_and, and_true, decide_false, decide_true, Bool.not_true, Bool.not_false, Bool.true_and, Bool.false_and, Bool.and_true, Bool.and_false, Bool.or_false, Bool.or_true, Bool.false_or, Bool.true_or, Nat.reduceEqDiff, reduceCtorEq, eSl, pSome, pNone, lcT, wipeE, fits_0, fits_1, fits_2, fits_3, fits_4, b3]
    rw [this]
    rfl
  refine st_iff (S' := S) ?_ st_nx
  revert e1 e2
  generalize (eLst (aCons (eCall 3 f_seams_between (aCons (eVar 4) (aCons (eVar 14) (aCons (eVar 15) aNil)))) (aCons (eCall 3 f_seams_between (aCons (eVar 4) (aCons (eRev (eVar 15)) (aCons (eVar 14) aNil)))) aNil))) = E1
  generalize (eRepL (aCons (eCall 3 f_law_seams_of (aCons (eVar 4) (aCons (eVar 14) (aCons (eVar 15) aNil)))) aNil) (eC (.int 2))) = E2
  intro e1 e2
  simp only [fnS, env0, sSeq, sSet, sRet, sRetN, sIf, sE, sAsg, sPar, sNx, sPut, R.toS, R.bind, eVar, eC, eOp, eTup, eLst, eLstR, aCons, aNil, eIf, eAn, eOr, eNt, eIsi, toB, tNt, tAn, tOr_, tYs, eCall, eCall0, eB, eMt, eMt0, iSrc, iRg1, iRg2, iEn, iZp, gN, gT, gsCons, gsNil, turnS, List.map_cons, List.map_nil, List.length_cons, List.length_nil, List.replicate, List.cons_append, List.nil_append, List.getElem?_cons_zero, List.getElem?_cons_succ, List.set_cons_zero, List.set_cons_succ, Nat.sub_self, Nat.reduceSub, Nat.reduceAdd, if_true, Bool.false_eq_true, if_false, ite_true, ite_false, List.cons.injEq, and_false, false_and, true_and, and_true, decide_false, decide_true, Bool.not_true, Bool.not_false, Bool.true_and, Bool.false_and, Bool.and_true, Bool.and_false, Bool.or_false, Bool.or_true, Bool.false_or, Bool.true_or, Nat.reduceEqDiff, reduceCtorEq, eSl, pSome, pNone, lcT, wipeE, fits_0, fits_1, fits_2, fits_3, fits_4, e1, e2, e_alike, hal]
/-! one lap -/
def J (S : Sto) : Prop := Bg 1 S ∧ S.get 0 = some (.tbl lamQ)
theorem J.nxt {S S' : Sto} (h : J S) (n : Nxt 1 S S') : J S' := ⟨n.1, (n.2.2 0 (Sto.get_lt h.2) (by decide)).trans h.2⟩
theorem app_step {S0 S : Sto} {k : Nat} {l : List D} {d : D} (n : Nxt 1 S0 S) (hk : S0.len ≤ k) (h1 : k ≠ 1) (g : S.get k = some (.lst l)) (hl : l.length + 1 ≤ 16777216) : ∃ S', oAppend (.ref k) [d] S = .ok .non S' ∧ Nxt 1 S0 S' ∧ S'.get k = some (.lst (l ++ [d])) :=
  ⟨_, app_k g hl, n.setk hk h1, Sto.get_set_self n.1.1 (Sto.get_lt g)⟩
def lapB : C := (sSeq (sSet 3 (eCall 1 f_law_three (aCons (eVar 1) aNil))) (sSeq (sSet 4 (eCall 3 f_law_map (aCons (eVar 1) (aCons (eVar 3) (aCons (eC (.int 6)) aNil))))) (sSeq (sAsg (gT 3 (gsCons (gN 10) (gsCons (gN 11) (gsCons (gN 12) gsNil)))) (eVar 4)) (sSeq (sSet 5 (eLc [16] (iRg1 (aCons (eVar 10) aNil)) (gN 16) tYs (eCall 2 f_law_member (aCons (eVar 4) (aCons (eVar 16) aNil))))) (sSeq (sIf (tNt (toB (eCall 2 f_law_alike (aCons (eLst (aCons (eCall 1 f_names_of (aCons (eVar 4) aNil)) (aCons (eCall 1 f_memberships (aCons (eVar 4) aNil)) (aCons (eLc [18] (iSrc (eVar 3)) (gN 18) tYs (eCall 2 f_cells_in (aCons (eVar 4) (aCons (eVar 18) aNil)))) aNil)))) (aCons (eLst (aCons (eVar 3) (aCons (eB oTuple (aCons (eVar 5) aNil)) (aCons (eLc [18, 19] (iSrc (eVar 12)) (gT 2 (gsCons (gN 18) (gsCons (gN 19) gsNil))) tYs (eVar 19)) aNil)))) aNil))))) (sRet (eC (.bl false))) sNx) (sSeq (sIf (tNt (toB (eCall 2 f_law_alike (aCons (eLc [16] (iRg1 (aCons (eVar 10) aNil)) (gN 16) tYs (eLst (aCons (eCall 2 f_membership (aCons (eVar 4) (aCons (eVar 16) aNil))) (aCons (eCall 2 f_beside (aCons (eVar 4) (aCons (eVar 16) aNil))) aNil)))) (aCons (eLc [16] (iRg1 (aCons (eVar 10) aNil)) (gN 16) tYs (eLst (aCons (eOp oIx (eVar 5) (eVar 16)) (aCons (eCall 2 f_law_near (aCons (eVar 4) (aCons (eVar 16) aNil))) aNil)))) aNil))))) (sRet (eC (.bl false))) sNx) (sSeq (sFor (iSrc (eOp oAdd (eCall 1 f_law_lots (aCons (eB oList (aCons (eVar 3) aNil)) aNil)) (eLst (aCons (eTup (aCons (eC (.str [122, 122])) aNil)) (aCons (eC .non) (aCons (eLst (aCons (eC (.str [97])) aNil)) aNil)))))) (gN 6) (sIf (tNt (toB (eCall 2 f_law_alike (aCons (eCall 2 f_cells_with (aCons (eVar 4) (aCons (eVar 6) aNil))) (aCons (eB oTuple (aCons (eLc [16] (iRg1 (aCons (eVar 10) aNil)) (gN 16) (toB (eOp oEq (eOp oIx (eVar 5) (eVar 16)) (eVar 6))) (eVar 16)) aNil)) aNil))))) (sRet (eC (.bl false))) sNx)) (sSeq (sFor (iRg1 (aCons (eVar 10) aNil)) (gN 7) (sFor (iRg1 (aCons (eVar 10) aNil)) (gN 13) (sIf (tNt (toB (eCall 2 f_law_alike (aCons (eCall 3 f_has_seam (aCons (eVar 4) (aCons (eVar 7) (aCons (eVar 13) aNil)))) (aCons (eOp oIn (eTup (aCons (eB oMin (aCons (eVar 7) (aCons (eVar 13) aNil))) (aCons (eB oMax (aCons (eVar 7) (aCons (eVar 13) aNil))) aNil))) (eVar 11)) aNil))))) (sRet (eC (.bl false))) sNx))) (sSeq (sAsg (gTL 2 (gsCons (gN 14) (gsCons (gN 15) gsNil))) (eLc [17] (iRg1 (aCons (eC (.int 2)) aNil)) (gN 17) tYs (eB oTuple (aCons (eLc [16] (iRg1 (aCons (eVar 10) aNil)) (gN 16) (toB (eOp oEq (eCall 2 f_law_take (aCons (eVar 1) (aCons (eC (.int 2)) aNil))) (eC (.int 0)))) (eVar 16)) aNil)))) (sSeq (sIf (tNt (toB (eCall 2 f_law_alike (aCons (eLst (aCons (eCall 3 f_seams_between (aCons (eVar 4) (aCons (eVar 14) (aCons (eVar 15) aNil)))) (aCons (eCall 3 f_seams_between (aCons (eVar 4) (aCons (eRev (eVar 15)) (aCons (eVar 14) aNil)))) aNil))) (aCons (eRepL (aCons (eCall 3 f_law_seams_of (aCons (eVar 4) (aCons (eVar 14) (aCons (eVar 15) aNil)))) aNil) (eC (.int 2))) aNil))))) (sRet (eC (.bl false))) sNx) (sSeq (sSet 8 (eCall 2 f_law_some (aCons (eVar 1) (aCons (eLst (aCons (eNeg (eC (.int 1))) (aCons (eVar 10) (aCons (eC (.bl true)) (aCons (eC .non) (aCons (eC (.str [48])) aNil)))))) aNil)))) (sSeq (sSet 9 (eLstR (aCons (eHeard lamQ [116, 111, 108, 100] [110, 111, 116, 104, 105, 110, 103] [("Nothing", true)] (eCall 2 f_membership (aCons (eVar 4) (aCons (eVar 8) aNil)))) aNil))) (sSeq (sE (eMt tyL oAppend (eVar 9) (aCons (eHeard lamQ [116, 111, 108, 100] [110, 111, 116, 104, 105, 110, 103] [("Nothing", true)] (eCall 3 f_has_seam (aCons (eVar 4) (aCons (eC (.int 0)) (aCons (eVar 8) aNil))))) aNil))) (sSeq (sE (eMt tyL oAppend (eVar 9) (aCons (eHeard lamQ [116, 111, 108, 100] [110, 111, 116, 104, 105, 110, 103] [("Nothing", true)] (eCall 3 f_seams_between (aCons (eVar 4) (aCons (eTup (aCons (eVar 8) aNil)) (aCons (eTup aNil) aNil))))) aNil))) (sSeq (sE (eMt tyL oAppend (eVar 9) (aCons (eHeard lamQ [116, 111, 108, 100] [110, 111, 116, 104, 105, 110, 103] [("Nothing", true)] (eCall 3 f_seams_between (aCons (eVar 4) (aCons (eTup aNil) (aCons (eLst (aCons (eC (.int 0)) aNil)) aNil))))) aNil))) (sSeq (sE (eMt tyL oAppend (eVar 9) (aCons (eHeard lamQ [116, 111, 108, 100] [110, 111, 116, 104, 105, 110, 103] [("Nothing", true)] (eCall 2 f_cells_in (aCons (eVar 4) (aCons (eCall 2 f_law_some (aCons (eVar 1) (aCons (eLst (aCons (eC (.str [122, 122])) (aCons (eC (.str [65])) (aCons (eC .non) (aCons (eC (.int 1)) aNil))))) aNil))) aNil)))) aNil))) (sIf (toB (eOp oNe (eVar 9) (eRepL (aCons (eTup (aCons (eC (.str [110, 111, 116, 104, 105, 110, 103])) aNil)) aNil) (eC (.int 5))))) (sRet (eC (.bl false))) sNx)))))))))))))))))
def Env20 (ρ : Z.Env) : Prop := ∃ x0 x2 x3 x4 x5 x6 x7 x8 x9 x10 x11 x12 x13 x14 x15 x16 x17 x18 x19, ρ = [x0, some (.ref 1), x2, x3, x4, x5, x6, x7, x8, x9, x10, x11, x12, x13, x14, x15, x16, x17, x18, x19]
theorem lap {i : Int} {S : Sto} {ρ : Z.Env} (h : J S) (hρ : Env20 ρ) : ∃ ρ' S', turnS (gN 2) lapB (.int i) ρ S = .nx ρ' S' ∧ Env20 ρ' ∧ J S' := by
  obtain ⟨x0, x2, x3, x4, x5, x6, x7, x8, x9, x10, x11, x12, x13, x14, x15, x16, x17, x18, x19, rfl⟩ := hρ
  obtain ⟨k, S1, k1, k3, e1, n1⟩ := three_ok h.1
  obtain ⟨m, S2, e2, hm, hm6, hnm, n2⟩ := gmap_ok n1.1 k1 k3
  have hn : (abc.take k).map D.str = m.zs.map fun z => .str z.1 := by rw [← hnm, List.map_map]; rfl
  rw [hn] at e1 e2
  have j2 := (h.nxt n1).nxt n2
  obtain ⟨y6, e6⟩ := s_6 (S := S2) (x2 := some (.int i)) (x0 := x0) (x6 := x6) (x7 := x7) (x8 := x8) (x9 := x9) (x13 := x13) (x14 := x14) (x15 := x15) (x16 := x16) (x17 := x17) (x18 := x18) (x19 := x19) hm
  obtain ⟨y7, y13, e7⟩ := s_7 (S := S2) (x2 := some (.int i)) (x6 := y6) (x0 := x0) (x7 := x7) (x8 := x8) (x9 := x9) (x13 := x13) (x14 := x14) (x15 := x15) (x16 := x16) (x17 := x17) (x18 := x18) (x19 := x19) hm
  obtain ⟨l1, l2, S3, q1, q2, n3, e8⟩ := s_8 (S := S2) (x2 := some (.int i)) (x6 := y6) (x7 := y7) (x13 := y13) (x0 := x0) (x8 := x8) (x9 := x9) (x14 := x14) (x15 := x15) (x16 := x16) (x17 := x17) (x18 := x18) (x19 := x19) hm j2.1
  have j3 := j2.nxt n3
  obtain ⟨odd, S5, eO, hO, n5⟩ := some_ok (ds := [.int (-1), nD m.n, .bl true, .non, .str [48]]) j3.1 (by simp) (by simp)
  have j5 := j3.nxt n5
  have hodd : val odd = true ∧ (isC odd = false ∨ odd = nD m.n) := by
    simp only [List.mem_cons, List.not_mem_nil, or_false] at hO
    rcases hO with rfl | rfl | rfl | rfl | rfl
    · exact ⟨rfl, .inl rfl⟩
    · exact ⟨rfl, .inr rfl⟩
    · exact ⟨rfl, .inl rfl⟩
    · exact ⟨rfl, .inl rfl⟩
    · exact ⟨rfl, .inl rfl⟩
  have hk1 : S5.len ≠ 1 := by have := j5.1.lt; omega
  have n6 : Nxt 1 S5 (S5.push (.lst [.tup [.str [110, 111, 116, 104, 105, 110, 103]]])) := Nxt.push j5.1
  have g6 : (S5.push (.lst [.tup [.str [110, 111, 116, 104, 105, 110, 103]]])).get S5.len = some (.lst [.tup [.str [110, 111, 116, 104, 105, 110, 103]]]) := Sto.get_push_self
  revert n6 g6
  generalize hS6 : S5.push (.lst [.tup [.str [110, 111, 116, 104, 105, 110, 103]]]) = S6
  intro n6 g6
  obtain ⟨S7, a7, n7, g7⟩ := app_step (d := .tup [.str [110, 111, 116, 104, 105, 110, 103]]) n6 (Nat.le_refl _) hk1 g6 (by decide)
  obtain ⟨S8, a8, n8, g8⟩ := app_step (d := .tup [.str [110, 111, 116, 104, 105, 110, 103]]) n7 (Nat.le_refl _) hk1 g7 (by decide)
  obtain ⟨S9, a9, n9, g9⟩ := app_step (d := .tup [.str [110, 111, 116, 104, 105, 110, 103]]) n8 (Nat.le_refl _) hk1 g8 (by decide)
  obtain ⟨bad, S10, eB, hB, n10⟩ := some_ok (ds := [.str [122, 122], .str [65], .non, .int 1]) n9.1 (by decide) (by decide)
  have g10 : S10.get S5.len = some (.lst ([.tup [.str [110, 111, 116, 104, 105, 110, 103]]] ++ [.tup [.str [110, 111, 116, 104, 105, 110, 103]]] ++ [.tup [.str [110, 111, 116, 104, 105, 110, 103]]] ++ [.tup [.str [110, 111, 116, 104, 105, 110, 103]]])) := (n10.2.2 _ (Sto.get_lt g9) hk1).trans g9
  obtain ⟨S11, a11, n11, g11⟩ := app_step (d := .tup [.str [110, 111, 116, 104, 105, 110, 103]]) (n9.trans n10) (Nat.le_refl _) hk1 g10 (by decide)
  have hbad : bad = .str [122, 122] ∨ bad = .str [65] ∨ bad = .non ∨ bad = .int 1 := by simpa using hB
  have j6 := j5.nxt n6
  have j7 := j5.nxt n7
  have j8 := j5.nxt n8
  have j9 := j5.nxt n9
  refine ⟨[x0, some (.ref 1), some (.int i), some (.tup (m.zs.map fun z => .str z.1)), some (gD m), some (.lst ((List.range m.n).map (rowD m))), y6, y7, some odd, some (.ref S5.len), some (nD m.n), some (.tup (m.sm.map cpD)), some (.tup (m.zs.map znD)), y13, some (cellsD l1), some (cellsD l2), x16, x17, x18, x19], S11, ?_, ⟨_, _, _, _, _, _, _, _, _, _, _, _, _, _, _, _, _, _, _, rfl⟩, j5.nxt n11⟩
  show lapB [x0, some (.ref 1), some (.int i), x3, x4, x5, x6, x7, x8, x9, x10, x11, x12, x13, x14, x15, x16, x17, x18, x19] S = _
  unfold lapB
  refine sq_nx (st_set (d := .tup (m.zs.map fun z => .str z.1)) (S' := S1) (by simp only [fnS, env0, sSeq, sSet, sRet, sRetN, sIf, sE, sAsg, sPar, sNx, sPut, R.toS, R.bind, eVar, eC, eOp, eTup, eLst, eLstR, aCons, aNil, eIf, eAn, eOr, eNt, eIsi, toB, tNt, tAn, tOr_, tYs, eCall, eCall0, eB, eMt, eMt0, iSrc, iRg1, iRg2, iEn, iZp, gN, gT, gsCons, gsNil, turnS, List.map_cons, List.map_nil, List.length_cons, List.length_nil, List.replicate, List.cons_append, List.nil_append, List.getElem?_cons_zero, List.getElem?_cons_succ, List.set_cons_zero, List.set_cons_succ, Nat.sub_self, Nat.reduceSub, Nat.reduceAdd, if_true, Bool.false_eq_true, if_false, ite_true, ite_false, List.cons.injEq, and_false, false_and, true_and, and_true, decide_false, decide_true, Bool.not_true, Bool.not_false, Bool.true_and, Bool.false_and, Bool.and_true, Bool.and_false, Bool.or_false, Bool.or_true, Bool.false_or, Bool.true_or, Nat.reduceEqDiff, reduceCtorEq, eSl, pSome, pNone, lcT, wipeE, fits_0, fits_1, fits_2, fits_3, fits_4, e1])) ?_
  refine sq_nx (st_set (d := gD m) (S' := S2) (by simp only [fnS, env0, sSeq, sSet, sRet, sRetN, sIf, sE, sAsg, sPar, sNx, sPut, R.toS, R.bind, eVar, eC, eOp, eTup, eLst, eLstR, aCons, aNil, eIf, eAn, eOr, eNt, eIsi, toB, tNt, tAn, tOr_, tYs, eCall, eCall0, eB, eMt, eMt0, iSrc, iRg1, iRg2, iEn, iZp, gN, gT, gsCons, gsNil, turnS, List.map_cons, List.map_nil, List.length_cons, List.length_nil, List.replicate, List.cons_append, List.nil_append, List.getElem?_cons_zero, List.getElem?_cons_succ, List.set_cons_zero, List.set_cons_succ, Nat.sub_self, Nat.reduceSub, Nat.reduceAdd, if_true, Bool.false_eq_true, if_false, ite_true, ite_false, List.cons.injEq, and_false, false_and, true_and, and_true, decide_false, decide_true, Bool.not_true, Bool.not_false, Bool.true_and, Bool.false_and, Bool.and_true, Bool.and_false, Bool.or_false, Bool.or_true, Bool.false_or, Bool.true_or, Nat.reduceEqDiff, reduceCtorEq, eSl, pSome, pNone, lcT, wipeE, fits_0, fits_1, fits_2, fits_3, fits_4, e2])) ?_
  refine sq_nx (ρ' := [x0, some (.ref 1), some (.int i), some (.tup (m.zs.map fun z => .str z.1)), some (gD m), x5, x6, x7, x8, x9, some (nD m.n), some (.tup (m.sm.map cpD)), some (.tup (m.zs.map znD)), x13, x14, x15, x16, x17, x18, x19]) (S' := S2) (by simp only [fnS, env0, sSeq, sSet, sRet, sRetN, sIf, sE, sAsg, sPar, sNx, sPut, R.toS, R.bind, eVar, eC, eOp, eTup, eLst, eLstR, aCons, aNil, eIf, eAn, eOr, eNt, eIsi, toB, tNt, tAn, tOr_, tYs, eCall, eCall0, eB, eMt, eMt0, iSrc, iRg1, iRg2, iEn, iZp, gN, gT, gsCons, gsNil, turnS, List.map_cons, List.map_nil, List.length_cons, List.length_nil, List.replicate, List.cons_append, List.nil_append, List.getElem?_cons_zero, List.getElem?_cons_succ, List.set_cons_zero, List.set_cons_succ, Nat.sub_self, Nat.reduceSub, Nat.reduceAdd, if_true, Bool.false_eq_true, if_false, ite_true, ite_false, List.cons.injEq, and_false, false_and, true_and, and_true, decide_false, decide_true, Bool.not_true, Bool.not_false, Bool.true_and, Bool.false_and, Bool.and_true, Bool.and_false, Bool.or_false, Bool.or_true, Bool.false_or, Bool.true_or, Nat.reduceEqDiff, reduceCtorEq, eSl, pSome, pNone, lcT, wipeE, fits_0, fits_1, fits_2, fits_3, fits_4, sAsg, gT, rd, gD, gmD]) ?_
  refine sq_nx (st_set (d := .lst ((List.range m.n).map (rowD m))) (S' := S2) (e_rows hm)) ?_
  refine sq_nx (s_4 hm) (sq_nx (s_5 hm) (sq_nx e6 (sq_nx e7 (sq_nx e8 (sq_nx (s_9 hm q1 q2) ?_)))))
  refine sq_nx (st_set (d := odd) (S' := S5) (by
    have eO : f_law_some [.ref 1, .lst [.int (-1), nD m.n, .bl true, .non, .str [48]]] S3 = .ok odd S5 := eO
    simp only [fnS, env0, sSeq, sSet, sRet, sRetN, sIf, sE, sAsg, sPar, sNx, sPut, R.toS, R.bind, eVar, eC, eOp, eTup, eLst, eLstR, aCons, aNil, eIf, eAn, eOr, eNt, eIsi, toB, tNt, tAn, tOr_, tYs, eCall, eCall0, eB, eMt, eMt0, iSrc, iRg1, iRg2, iEn, iZp, gN, gT, gsCons, gsNil, turnS, List.map_cons, List.map_nil, List.length_cons, List.length_nil, List.replicate, List.cons_append, List.nil_append, List.getElem?_cons_zero, List.getElem?_cons_succ, List.set_cons_zero, List.set_cons_succ, Nat.sub_self, Nat.reduceSub, Nat.reduceAdd, if_true, Bool.false_eq_true, if_false, ite_true, ite_false, List.cons.injEq, and_false, false_and, true_and, and_true, decide_false, decide_true, Bool.not_true, Bool.not_false, Bool.true_and, Bool.false_and, Bool.and_true, Bool.and_false, Bool.or_false, Bool.or_true, Bool.false_or, Bool.true_or, Nat.reduceEqDiff, reduceCtorEq, eSl, pSome, pNone, lcT, wipeE, fits_0, fits_1, fits_2, fits_3, fits_4, eNeg, show (-(1 : Int)) = -1 from rfl, show fits 5 = true from rfl, eO])) ?_
  refine sq_nx (st_set (d := .ref S5.len) (S' := S6) ?_) ?_
  · have z := heard_ex (m := (eCall 2 f_membership (aCons (eVar 4) (aCons (eVar 8) aNil)))) (ρ := [x0, some (.ref 1), some (.int i), some (.tup (m.zs.map fun z => .str z.1)), some (gD m), some (.lst ((List.range m.n).map (rowD m))), y6, y7, some odd, x9, some (nD m.n), some (.tup (m.sm.map cpD)), some (.tup (m.zs.map znD)), y13, some (cellsD l1), some (cellsD l2), x16, x17, x18, x19]) (S := S5) (S' := S5) (told := [116, 111, 108, 100]) (nothing := [110, 111, 116, 104, 105, 110, 103]) j5.2 (by simp only [fnS, env0, sSeq, sSet, sRet, sRetN, sIf, sE, sAsg, sPar, sNx, sPut, R.toS, R.bind, eVar, eC, eOp, eTup, eLst, eLstR, aCons, aNil, eIf, eAn, eOr, eNt, eIsi, toB, tNt, tAn, tOr_, tYs, eCall, eCall0, eB, eMt, eMt0, iSrc, iRg1, iRg2, iEn, iZp, gN, gT, gsCons, gsNil, turnS, List.map_cons, List.map_nil, List.length_cons, List.length_nil, List.replicate, List.cons_append, List.nil_append, List.getElem?_cons_zero, List.getElem?_cons_succ, List.set_cons_zero, List.set_cons_succ, Nat.sub_self, Nat.reduceSub, Nat.reduceAdd, if_true, Bool.false_eq_true, if_false, ite_true, ite_false, List.cons.injEq, and_false, false_and, true_and, and_true, decide_false, decide_true, Bool.not_true, Bool.not_false, Bool.true_and, Bool.false_and, Bool.and_true, Bool.and_false, Bool.or_false, Bool.or_true, Bool.false_or, Bool.true_or, Nat.reduceEqDiff, reduceCtorEq, eSl, pSome, pNone, lcT, wipeE, fits_0, fits_1, fits_2, fits_3, fits_4, p_membership_x hodd.1 hodd.2])
    show eLstR (aCons _ aNil) [x0, some (.ref 1), some (.int i), some (.tup (m.zs.map fun z => .str z.1)), some (gD m), some (.lst ((List.range m.n).map (rowD m))), y6, y7, some odd, x9, some (nD m.n), some (.tup (m.sm.map cpD)), some (.tup (m.zs.map znD)), y13, some (cellsD l1), some (cellsD l2), x16, x17, x18, x19] S5 = _
    revert z
    generalize eHeard _ _ _ _ _ = E
    intro z
    simp only [fnS, env0, sSeq, sSet, sRet, sRetN, sIf, sE, sAsg, sPar, sNx, sPut, R.toS, R.bind, eVar, eC, eOp, eTup, eLst, eLstR, aCons, aNil, eIf, eAn, eOr, eNt, eIsi, toB, tNt, tAn, tOr_, tYs, eCall, eCall0, eB, eMt, eMt0, iSrc, iRg1, iRg2, iEn, iZp, gN, gT, gsCons, gsNil, turnS, List.map_cons, List.map_nil, List.length_cons, List.length_nil, List.replicate, List.cons_append, List.nil_append, List.getElem?_cons_zero, List.getElem?_cons_succ, List.set_cons_zero, List.set_cons_succ, Nat.sub_self, Nat.reduceSub, Nat.reduceAdd, if_true, Bool.false_eq_true, if_false, ite_true, ite_false, List.cons.injEq, and_false, false_and, true_and, and_true, decide_false, decide_true, Bool.not_true, Bool.not_false, Bool.true_and, Bool.false_and, Bool.and_true, Bool.and_false, Bool.or_false, Bool.or_true, Bool.false_or, Bool.true_or, Nat.reduceEqDiff, reduceCtorEq, eSl, pSome, pNone, lcT, wipeE, fits_0, fits_1, fits_2, fits_3, fits_4, z, show fits 1 = true from rfl, hS6]
  refine sq_nx (st_e (d := .non) (S' := S7) ?_) ?_
  · have z := heard_ex (m := (eCall 3 f_has_seam (aCons (eVar 4) (aCons (eC (.int 0)) (aCons (eVar 8) aNil))))) (ρ := [x0, some (.ref 1), some (.int i), some (.tup (m.zs.map fun z => .str z.1)), some (gD m), some (.lst ((List.range m.n).map (rowD m))), y6, y7, some odd, some (.ref S5.len), some (nD m.n), some (.tup (m.sm.map cpD)), some (.tup (m.zs.map znD)), y13, some (cellsD l1), some (cellsD l2), x16, x17, x18, x19]) (S := S6) (S' := S6) (told := [116, 111, 108, 100]) (nothing := [110, 111, 116, 104, 105, 110, 103]) j6.2 (by simp only [fnS, env0, sSeq, sSet, sRet, sRetN, sIf, sE, sAsg, sPar, sNx, sPut, R.toS, R.bind, eVar, eC, eOp, eTup, eLst, eLstR, aCons, aNil, eIf, eAn, eOr, eNt, eIsi, toB, tNt, tAn, tOr_, tYs, eCall, eCall0, eB, eMt, eMt0, iSrc, iRg1, iRg2, iEn, iZp, gN, gT, gsCons, gsNil, turnS, List.map_cons, List.map_nil, List.length_cons, List.length_nil, List.replicate, List.cons_append, List.nil_append, List.getElem?_cons_zero, List.getElem?_cons_succ, List.set_cons_zero, List.set_cons_succ, Nat.sub_self, Nat.reduceSub, Nat.reduceAdd, if_true, Bool.false_eq_true, if_false, ite_true, ite_false, List.cons.injEq, and_false, false_and, true_and, and_true, decide_false, decide_true, Bool.not_true, Bool.not_false, Bool.true_and, Bool.false_and, Bool.and_true, Bool.and_false, Bool.or_false, Bool.or_true, Bool.false_or, Bool.true_or, Nat.reduceEqDiff, reduceCtorEq, eSl, pSome, pNone, lcT, wipeE, fits_0, fits_1, fits_2, fits_3, fits_4, p_has_seam_x hodd.1 hodd.2])
    show eMt tyL oAppend (eVar 9) (aCons _ aNil) [x0, some (.ref 1), some (.int i), some (.tup (m.zs.map fun z => .str z.1)), some (gD m), some (.lst ((List.range m.n).map (rowD m))), y6, y7, some odd, some (.ref S5.len), some (nD m.n), some (.tup (m.sm.map cpD)), some (.tup (m.zs.map znD)), y13, some (cellsD l1), some (cellsD l2), x16, x17, x18, x19] S6 = _
    revert z
    generalize eHeard _ _ _ _ _ = E
    intro z
    simp only [fnS, env0, sSeq, sSet, sRet, sRetN, sIf, sE, sAsg, sPar, sNx, sPut, R.toS, R.bind, eVar, eC, eOp, eTup, eLst, eLstR, aCons, aNil, eIf, eAn, eOr, eNt, eIsi, toB, tNt, tAn, tOr_, tYs, eCall, eCall0, eB, eMt, eMt0, iSrc, iRg1, iRg2, iEn, iZp, gN, gT, gsCons, gsNil, turnS, List.map_cons, List.map_nil, List.length_cons, List.length_nil, List.replicate, List.cons_append, List.nil_append, List.getElem?_cons_zero, List.getElem?_cons_succ, List.set_cons_zero, List.set_cons_succ, Nat.sub_self, Nat.reduceSub, Nat.reduceAdd, if_true, Bool.false_eq_true, if_false, ite_true, ite_false, List.cons.injEq, and_false, false_and, true_and, and_true, decide_false, decide_true, Bool.not_true, Bool.not_false, Bool.true_and, Bool.false_and, Bool.and_true, Bool.and_false, Bool.or_false, Bool.or_true, Bool.false_or, Bool.true_or, Nat.reduceEqDiff, reduceCtorEq, eSl, pSome, pNone, lcT, wipeE, fits_0, fits_1, fits_2, fits_3, fits_4, tyL_k g6, z, a7]
  refine sq_nx (st_e (d := .non) (S' := S8) ?_) ?_
  · have z := heard_ex (m := (eCall 3 f_seams_between (aCons (eVar 4) (aCons (eTup (aCons (eVar 8) aNil)) (aCons (eTup aNil) aNil))))) (ρ := [x0, some (.ref 1), some (.int i), some (.tup (m.zs.map fun z => .str z.1)), some (gD m), some (.lst ((List.range m.n).map (rowD m))), y6, y7, some odd, some (.ref S5.len), some (nD m.n), some (.tup (m.sm.map cpD)), some (.tup (m.zs.map znD)), y13, some (cellsD l1), some (cellsD l2), x16, x17, x18, x19]) (S := S7) (S' := S7) (told := [116, 111, 108, 100]) (nothing := [110, 111, 116, 104, 105, 110, 103]) j7.2 (by simp only [fnS, env0, sSeq, sSet, sRet, sRetN, sIf, sE, sAsg, sPar, sNx, sPut, R.toS, R.bind, eVar, eC, eOp, eTup, eLst, eLstR, aCons, aNil, eIf, eAn, eOr, eNt, eIsi, toB, tNt, tAn, tOr_, tYs, eCall, eCall0, eB, eMt, eMt0, iSrc, iRg1, iRg2, iEn, iZp, gN, gT, gsCons, gsNil, turnS, List.map_cons, List.map_nil, List.length_cons, List.length_nil, List.replicate, List.cons_append, List.nil_append, List.getElem?_cons_zero, List.getElem?_cons_succ, List.set_cons_zero, List.set_cons_succ, Nat.sub_self, Nat.reduceSub, Nat.reduceAdd, if_true, Bool.false_eq_true, if_false, ite_true, ite_false, List.cons.injEq, and_false, false_and, true_and, and_true, decide_false, decide_true, Bool.not_true, Bool.not_false, Bool.true_and, Bool.false_and, Bool.and_true, Bool.and_false, Bool.or_false, Bool.or_true, Bool.false_or, Bool.true_or, Nat.reduceEqDiff, reduceCtorEq, eSl, pSome, pNone, lcT, wipeE, fits_0, fits_1, fits_2, fits_3, fits_4, show fits 0 = true from rfl, show fits 1 = true from rfl, p_seams_x1 hodd.1 (show nrf (.tup []) = true from rfl) hodd.2])
    show eMt tyL oAppend (eVar 9) (aCons _ aNil) [x0, some (.ref 1), some (.int i), some (.tup (m.zs.map fun z => .str z.1)), some (gD m), some (.lst ((List.range m.n).map (rowD m))), y6, y7, some odd, some (.ref S5.len), some (nD m.n), some (.tup (m.sm.map cpD)), some (.tup (m.zs.map znD)), y13, some (cellsD l1), some (cellsD l2), x16, x17, x18, x19] S7 = _
    revert z
    generalize eHeard _ _ _ _ _ = E
    intro z
    simp only [fnS, env0, sSeq, sSet, sRet, sRetN, sIf, sE, sAsg, sPar, sNx, sPut, R.toS, R.bind, eVar, eC, eOp, eTup, eLst, eLstR, aCons, aNil, eIf, eAn, eOr, eNt, eIsi, toB, tNt, tAn, tOr_, tYs, eCall, eCall0, eB, eMt, eMt0, iSrc, iRg1, iRg2, iEn, iZp, gN, gT, gsCons, gsNil, turnS, List.map_cons, List.map_nil, List.length_cons, List.length_nil, List.replicate, List.cons_append, List.nil_append, List.getElem?_cons_zero, List.getElem?_cons_succ, List.set_cons_zero, List.set_cons_succ, Nat.sub_self, Nat.reduceSub, Nat.reduceAdd, if_true, Bool.false_eq_true, if_false, ite_true, ite_false, List.cons.injEq, and_false, false_and, true_and, and_true, decide_false, decide_true, Bool.not_true, Bool.not_false, Bool.true_and, Bool.false_and, Bool.and_true, Bool.and_false, Bool.or_false, Bool.or_true, Bool.false_or, Bool.true_or, Nat.reduceEqDiff, reduceCtorEq, eSl, pSome, pNone, lcT, wipeE, fits_0, fits_1, fits_2, fits_3, fits_4, tyL_k g7, z, a8]
  refine sq_nx (st_e (d := .non) (S' := S9) ?_) ?_
  · have px : ∀ S, f_seams_between [gD m, .tup [], .lst [.int 0]] S = .ex noth S := fun S => p_seams_x2 S
    have z := heard_ex (m := (eCall 3 f_seams_between (aCons (eVar 4) (aCons (eTup aNil) (aCons (eLst (aCons (eC (.int 0)) aNil)) aNil))))) (ρ := [x0, some (.ref 1), some (.int i), some (.tup (m.zs.map fun z => .str z.1)), some (gD m), some (.lst ((List.range m.n).map (rowD m))), y6, y7, some odd, some (.ref S5.len), some (nD m.n), some (.tup (m.sm.map cpD)), some (.tup (m.zs.map znD)), y13, some (cellsD l1), some (cellsD l2), x16, x17, x18, x19]) (S := S8) (S' := S8) (told := [116, 111, 108, 100]) (nothing := [110, 111, 116, 104, 105, 110, 103]) j8.2 (by simp only [fnS, env0, sSeq, sSet, sRet, sRetN, sIf, sE, sAsg, sPar, sNx, sPut, R.toS, R.bind, eVar, eC, eOp, eTup, eLst, eLstR, aCons, aNil, eIf, eAn, eOr, eNt, eIsi, toB, tNt, tAn, tOr_, tYs, eCall, eCall0, eB, eMt, eMt0, iSrc, iRg1, iRg2, iEn, iZp, gN, gT, gsCons, gsNil, turnS, List.map_cons, List.map_nil, List.length_cons, List.length_nil, List.replicate, List.cons_append, List.nil_append, List.getElem?_cons_zero, List.getElem?_cons_succ, List.set_cons_zero, List.set_cons_succ, Nat.sub_self, Nat.reduceSub, Nat.reduceAdd, if_true, Bool.false_eq_true, if_false, ite_true, ite_false, List.cons.injEq, and_false, false_and, true_and, and_true, decide_false, decide_true, Bool.not_true, Bool.not_false, Bool.true_and, Bool.false_and, Bool.and_true, Bool.and_false, Bool.or_false, Bool.or_true, Bool.false_or, Bool.true_or, Nat.reduceEqDiff, reduceCtorEq, eSl, pSome, pNone, lcT, wipeE, fits_0, fits_1, fits_2, fits_3, fits_4, show fits 0 = true from rfl, show fits 1 = true from rfl, px])
    show eMt tyL oAppend (eVar 9) (aCons _ aNil) [x0, some (.ref 1), some (.int i), some (.tup (m.zs.map fun z => .str z.1)), some (gD m), some (.lst ((List.range m.n).map (rowD m))), y6, y7, some odd, some (.ref S5.len), some (nD m.n), some (.tup (m.sm.map cpD)), some (.tup (m.zs.map znD)), y13, some (cellsD l1), some (cellsD l2), x16, x17, x18, x19] S8 = _
    revert z
    generalize eHeard _ _ _ _ _ = E
    intro z
    simp only [fnS, env0, sSeq, sSet, sRet, sRetN, sIf, sE, sAsg, sPar, sNx, sPut, R.toS, R.bind, eVar, eC, eOp, eTup, eLst, eLstR, aCons, aNil, eIf, eAn, eOr, eNt, eIsi, toB, tNt, tAn, tOr_, tYs, eCall, eCall0, eB, eMt, eMt0, iSrc, iRg1, iRg2, iEn, iZp, gN, gT, gsCons, gsNil, turnS, List.map_cons, List.map_nil, List.length_cons, List.length_nil, List.replicate, List.cons_append, List.nil_append, List.getElem?_cons_zero, List.getElem?_cons_succ, List.set_cons_zero, List.set_cons_succ, Nat.sub_self, Nat.reduceSub, Nat.reduceAdd, if_true, Bool.false_eq_true, if_false, ite_true, ite_false, List.cons.injEq, and_false, false_and, true_and, and_true, decide_false, decide_true, Bool.not_true, Bool.not_false, Bool.true_and, Bool.false_and, Bool.and_true, Bool.and_false, Bool.or_false, Bool.or_true, Bool.false_or, Bool.true_or, Nat.reduceEqDiff, reduceCtorEq, eSl, pSome, pNone, lcT, wipeE, fits_0, fits_1, fits_2, fits_3, fits_4, tyL_k g8, z, a9]
  refine sq_nx (st_e (d := .non) (S' := S11) ?_) ?_
  · have z := heard_ex (m := (eCall 2 f_cells_in (aCons (eVar 4) (aCons (eCall 2 f_law_some (aCons (eVar 1) (aCons (eLst (aCons (eC (.str [122, 122])) (aCons (eC (.str [65])) (aCons (eC .non) (aCons (eC (.int 1)) aNil))))) aNil))) aNil)))) (ρ := [x0, some (.ref 1), some (.int i), some (.tup (m.zs.map fun z => .str z.1)), some (gD m), some (.lst ((List.range m.n).map (rowD m))), y6, y7, some odd, some (.ref S5.len), some (nD m.n), some (.tup (m.sm.map cpD)), some (.tup (m.zs.map znD)), y13, some (cellsD l1), some (cellsD l2), x16, x17, x18, x19]) (S := S9) (S' := S10) (told := [116, 111, 108, 100]) (nothing := [110, 111, 116, 104, 105, 110, 103]) j9.2 (by simp only [fnS, env0, sSeq, sSet, sRet, sRetN, sIf, sE, sAsg, sPar, sNx, sPut, R.toS, R.bind, eVar, eC, eOp, eTup, eLst, eLstR, aCons, aNil, eIf, eAn, eOr, eNt, eIsi, toB, tNt, tAn, tOr_, tYs, eCall, eCall0, eB, eMt, eMt0, iSrc, iRg1, iRg2, iEn, iZp, gN, gT, gsCons, gsNil, turnS, List.map_cons, List.map_nil, List.length_cons, List.length_nil, List.replicate, List.cons_append, List.nil_append, List.getElem?_cons_zero, List.getElem?_cons_succ, List.set_cons_zero, List.set_cons_succ, Nat.sub_self, Nat.reduceSub, Nat.reduceAdd, if_true, Bool.false_eq_true, if_false, ite_true, ite_false, List.cons.injEq, and_false, false_and, true_and, and_true, decide_false, decide_true, Bool.not_true, Bool.not_false, Bool.true_and, Bool.false_and, Bool.and_true, Bool.and_false, Bool.or_false, Bool.or_true, Bool.false_or, Bool.true_or, Nat.reduceEqDiff, reduceCtorEq, eSl, pSome, pNone, lcT, wipeE, fits_0, fits_1, fits_2, fits_3, fits_4, show fits 4 = true from rfl, eB, p_cells_in_x hm hbad])
    show eMt tyL oAppend (eVar 9) (aCons _ aNil) [x0, some (.ref 1), some (.int i), some (.tup (m.zs.map fun z => .str z.1)), some (gD m), some (.lst ((List.range m.n).map (rowD m))), y6, y7, some odd, some (.ref S5.len), some (nD m.n), some (.tup (m.sm.map cpD)), some (.tup (m.zs.map znD)), y13, some (cellsD l1), some (cellsD l2), x16, x17, x18, x19] S9 = _
    revert z
    generalize eHeard _ _ _ _ _ = E
    intro z
    simp only [fnS, env0, sSeq, sSet, sRet, sRetN, sIf, sE, sAsg, sPar, sNx, sPut, R.toS, R.bind, eVar, eC, eOp, eTup, eLst, eLstR, aCons, aNil, eIf, eAn, eOr, eNt, eIsi, toB, tNt, tAn, tOr_, tYs, eCall, eCall0, eB, eMt, eMt0, iSrc, iRg1, iRg2, iEn, iZp, gN, gT, gsCons, gsNil, turnS, List.map_cons, List.map_nil, List.length_cons, List.length_nil, List.replicate, List.cons_append, List.nil_append, List.getElem?_cons_zero, List.getElem?_cons_succ, List.set_cons_zero, List.set_cons_succ, Nat.sub_self, Nat.reduceSub, Nat.reduceAdd, if_true, Bool.false_eq_true, if_false, ite_true, ite_false, List.cons.injEq, and_false, false_and, true_and, and_true, decide_false, decide_true, Bool.not_true, Bool.not_false, Bool.true_and, Bool.false_and, Bool.and_true, Bool.and_false, Bool.or_false, Bool.or_true, Bool.false_or, Bool.true_or, Nat.reduceEqDiff, reduceCtorEq, eSl, pSome, pNone, lcT, wipeE, fits_0, fits_1, fits_2, fits_3, fits_4, tyL_k g9, z, a11]
  refine st_iff (S' := S11) ?_ st_nx
  have e : eRepL (aCons (eTup (aCons (eC (.str [110, 111, 116, 104, 105, 110, 103])) aNil)) aNil) (eC (.int 5)) [x0, some (.ref 1), some (.int i), some (.tup (m.zs.map fun z => .str z.1)), some (gD m), some (.lst ((List.range m.n).map (rowD m))), y6, y7, some odd, some (.ref S5.len), some (nD m.n), some (.tup (m.sm.map cpD)), some (.tup (m.zs.map znD)), y13, some (cellsD l1), some (cellsD l2), x16, x17, x18, x19] S11 = .ok (.lst [.tup [.str [110, 111, 116, 104, 105, 110, 103]], .tup [.str [110, 111, 116, 104, 105, 110, 103]], .tup [.str [110, 111, 116, 104, 105, 110, 103]], .tup [.str [110, 111, 116, 104, 105, 110, 103]], .tup [.str [110, 111, 116, 104, 105, 110, 103]]]) S11 := rfl
  have ne := ne_ref g11 rfl
  simp only [List.cons_append, List.nil_append] at ne
  revert e
  generalize eRepL _ _ = E
  intro e
  simp only [fnS, env0, sSeq, sSet, sRet, sRetN, sIf, sE, sAsg, sPar, sNx, sPut, R.toS, R.bind, eVar, eC, eOp, eTup, eLst, eLstR, aCons, aNil, eIf, eAn, eOr, eNt, eIsi, toB, tNt, tAn, tOr_, tYs, eCall, eCall0, eB, eMt, eMt0, iSrc, iRg1, iRg2, iEn, iZp, gN, gT, gsCons, gsNil, turnS, List.map_cons, List.map_nil, List.length_cons, List.length_nil, List.replicate, List.cons_append, List.nil_append, List.getElem?_cons_zero, List.getElem?_cons_succ, List.set_cons_zero, List.set_cons_succ, Nat.sub_self, Nat.reduceSub, Nat.reduceAdd, if_true, Bool.false_eq_true, if_false, ite_true, ite_false, List.cons.injEq, and_false, false_and, true_and, and_true, decide_false, decide_true, Bool.not_true, Bool.not_false, Bool.true_and, Bool.false_and, Bool.and_true, Bool.and_false, Bool.or_false, Bool.or_true, Bool.false_or, Bool.true_or, Nat.reduceEqDiff, reduceCtorEq, eSl, pSome, pNone, lcT, wipeE, fits_0, fits_1, fits_2, fits_3, fits_4, e, ne]
theorem law_true (ns : List Int) (hn : ns.length ≤ 63) : ∃ S, f_law [.arg ns] (stT lamQ) = .ok (.bl true) S := by
  obtain ⟨S0, e0, h0, hl, keep⟩ := bag_ok hn (stT lamQ) rfl
  have e0 : f_law_bag [.arg ns] (stT lamQ) = .ok (.ref 1) S0 := e0
  have t0 : S0.get 0 = some (.tbl lamQ) := keep 0 (by decide)
  obtain ⟨ρ', S', e, hρ, hS⟩ := forS_inv (emb := D.int) (turn := turnS (gN 2) lapB) (fun _ ρ S => Env20 ρ ∧ J S) [0, 1, 2, 3, 4, 5] [some (.arg ns), some (.ref 1), none, none, none, none, none, none, none, none, none, none, none, none, none, none, none, none, none, none] S0 (by
    rintro done x rest ρ S _ ⟨h1, h2⟩
    obtain ⟨ρ', S', e, a, b⟩ := lap (i := x) h2 h1
    exact ⟨ρ', S', e, a, b⟩) ⟨⟨_, _, _, _, _, _, _, _, _, _, _, _, _, _, _, _, _, _, _, rfl⟩, h0, t0⟩
  refine ⟨S', fn_rt ?_⟩
  unfold m_law
  refine sq_nx (st_set (d := .ref 1) (S' := S0) (by simp only [env0, fnS, env0, sSeq, sSet, sRet, sRetN, sIf, sE, sAsg, sPar, sNx, sPut, R.toS, R.bind, eVar, eC, eOp, eTup, eLst, eLstR, aCons, aNil, eIf, eAn, eOr, eNt, eIsi, toB, tNt, tAn, tOr_, tYs, eCall, eCall0, eB, eMt, eMt0, iSrc, iRg1, iRg2, iEn, iZp, gN, gT, gsCons, gsNil, turnS, List.map_cons, List.map_nil, List.length_cons, List.length_nil, List.replicate, List.cons_append, List.nil_append, List.getElem?_cons_zero, List.getElem?_cons_succ, List.set_cons_zero, List.set_cons_succ, Nat.sub_self, Nat.reduceSub, Nat.reduceAdd, if_true, Bool.false_eq_true, if_false, ite_true, ite_false, List.cons.injEq, and_false, false_and, true_and, and_true, decide_false, decide_true, Bool.not_true, Bool.not_false, Bool.true_and, Bool.false_and, Bool.and_true, Bool.and_false, Bool.or_false, Bool.or_true, Bool.false_or, Bool.true_or, Nat.reduceEqDiff, reduceCtorEq, eSl, pSome, pNone, lcT, wipeE, fits_0, fits_1, fits_2, fits_3, fits_4, e0])) ?_
  exact sq_nx (st_for (S := S0) (ds := [0, 1, 2, 3, 4, 5].map D.int) rfl e) (st_ret rfl)
end Zk16

namespace Zk16
open PySem PySem.Spec PyProof PyProof.Rows L2 Z
def top (i : Nat) : Stmt := PySem.Challenge.pw_zoneways_k16_words_of_maps.main.body.getD i (.Pass ⟨0, 0, 0, 0⟩)
def dd_law_bag : He.DefD := ⟨("_law_bag", none), "_law_bag", "_law_bag", defArgs (top 25), defBody (top 25), defScope (top 25), [], []⟩
def dd_law_take : He.DefD := ⟨("_law_take", none), "_law_take", "_law_take", defArgs (top 26), defBody (top 26), defScope (top 26), [], []⟩
def dd_law_three : He.DefD := ⟨("_law_three", none), "_law_three", "_law_three", defArgs (top 33), defBody (top 33), defScope (top 33), [], []⟩
def dd_law_couples : He.DefD := ⟨("_law_couples", none), "_law_couples", "_law_couples", defArgs (top 30), defBody (top 30), defScope (top 30), [], []⟩
def dd_law_map : He.DefD := ⟨("_law_map", none), "_law_map", "_law_map", defArgs (top 31), defBody (top 31), defScope (top 31), [], []⟩
def dd_law_some : He.DefD := ⟨("_law_some", none), "_law_some", "_law_some", defArgs (top 27), defBody (top 27), defScope (top 27), [], []⟩
def dd_law_member : He.DefD := ⟨("_law_member", none), "_law_member", "_law_member", defArgs (top 32), defBody (top 32), defScope (top 32), [], []⟩
def dd_law_alike : He.DefD := ⟨("_law_alike", none), "_law_alike", "_law_alike", defArgs (top 28), defBody (top 28), defScope (top 28), [], []⟩
def dd_law_lots : He.DefD := ⟨("_law_lots", none), "_law_lots", "_law_lots", defArgs (top 29), defBody (top 29), defScope (top 29), [], []⟩
def dd_names_of : He.DefD := ⟨("names_of", none), "names_of", "names_of", defArgs (top 14), defBody (top 14), defScope (top 14), [], []⟩
def dd_memberships : He.DefD := ⟨("memberships", none), "memberships", "memberships", defArgs (top 19), defBody (top 19), defScope (top 19), [], []⟩
def dd_cells_with : He.DefD := ⟨("cells_with", none), "cells_with", "cells_with", defArgs (top 20), defBody (top 20), defScope (top 20), [], []⟩
def dd_is_integer : He.DefD := ⟨("is_integer", none), "is_integer", "is_integer", defArgs (top 9), defBody (top 9), defScope (top 9), [], []⟩
def dd_is_count : He.DefD := ⟨("is_count", none), "is_count", "is_count", defArgs (top 10), defBody (top 10), defScope (top 10), [], []⟩
def dd_is_counts : He.DefD := ⟨("is_counts", none), "is_counts", "is_counts", defArgs (top 13), defBody (top 13), defScope (top 13), [], []⟩
def dd_check_cells : He.DefD := ⟨("check_cells", none), "check_cells", "check_cells", defArgs (top 17), defBody (top 17), defScope (top 17), [], []⟩
def dd_seams_between : He.DefD := ⟨("seams_between", none), "seams_between", "seams_between", defArgs (top 23), defBody (top 23), defScope (top 23), [], []⟩
def dd_check_cell : He.DefD := ⟨("check_cell", none), "check_cell", "check_cell", defArgs (top 16), defBody (top 16), defScope (top 16), [], []⟩
def dd_membership : He.DefD := ⟨("membership", none), "membership", "membership", defArgs (top 18), defBody (top 18), defScope (top 18), [], []⟩
def dd_has_seam : He.DefD := ⟨("has_seam", none), "has_seam", "has_seam", defArgs (top 22), defBody (top 22), defScope (top 22), [], []⟩
def dd_is_name : He.DefD := ⟨("is_name", none), "is_name", "is_name", defArgs (top 11), defBody (top 11), defScope (top 11), [], []⟩
def dd_cells_in : He.DefD := ⟨("cells_in", none), "cells_in", "cells_in", defArgs (top 15), defBody (top 15), defScope (top 15), [], []⟩
def dd_beside : He.DefD := ⟨("beside", none), "beside", "beside", defArgs (top 21), defBody (top 21), defScope (top 21), [], []⟩
def dd_law_near : He.DefD := ⟨("_law_near", none), "_law_near", "_law_near", defArgs (top 34), defBody (top 34), defScope (top 34), [], []⟩
def dd_law_seams_of : He.DefD := ⟨("_law_seams_of", none), "_law_seams_of", "_law_seams_of", defArgs (top 35), defBody (top 35), defScope (top 35), [], []⟩
def dd_law : He.DefD := ⟨("law", none), "law", "law", defArgs (top 37), defBody (top 37), defScope (top 37), [], []⟩
def dd_law_heard : He.DefD := ⟨("_law_heard", none), "_law_heard", "_law_heard", defArgs (top 36), defBody (top 36), defScope (top 36), [], []⟩
def fn : List He.DefD := [dd_law_bag, dd_law_take, dd_law_three, dd_law_couples, dd_law_map, dd_law_some, dd_law_member, dd_law_alike, dd_law_lots, dd_names_of, dd_memberships, dd_cells_with, dd_is_integer, dd_is_count, dd_is_counts, dd_check_cells, dd_seams_between, dd_check_cell, dd_membership, dd_has_seam, dd_is_name, dd_cells_in, dd_beside, dd_law_near, dd_law_seams_of, dd_law, dd_law_heard]
def fa : List He.Fa := [.glo "_law_bag", .glo "_law_take", .glo "_law_three", .glo "_law_couples", .glo "_law_map", .glo "_law_some", .glo "_law_member", .glo "_law_alike", .glo "_law_lots", .glo "names_of", .glo "memberships", .glo "cells_with", .glo "is_integer", .glo "is_count", .glo "is_counts", .glo "check_cells", .glo "seams_between", .glo "check_cell", .glo "membership", .glo "has_seam", .glo "is_name", .glo "cells_in", .glo "beside", .glo "_law_near", .glo "_law_seams_of", .glo "law", .glo "_law_heard", .free "abs", .free "all", .free "bool", .free "dict", .free "enumerate", .free "int", .free "isinstance", .free "len", .free "list", .free "max", .free "min", .free "range", .free "repr", .free "sorted", .free "str", .free "tuple", .glo "Nothing", .exc "Nothing", .exm "Nothing" "Nothing" true]
def ex (K : PySem.W.Frag) : Bool := Z.gcB K "MOST_LETTERS" (.int 8) && Z.gcB K "LETTERS" (.str [97, 98, 99, 100, 101, 102, 103, 104, 105, 106, 107, 108, 109, 110, 111, 112, 113, 114, 115, 116, 117, 118, 119, 120, 121, 122]) && Z.gcB K "DIGITS" (.str [48, 49, 50, 51, 52, 53, 54, 55, 56, 57]) && Z.gcB K "RESERVED" (.tup [(.str [97, 108, 108]), (.str [97, 110, 100]), (.str [97, 112, 97, 114, 116]), (.str [98, 97, 114, 114, 101, 100]), (.str [99, 101, 108, 108]), (.str [100, 101, 101, 112]), (.str [104, 111, 108, 100, 115]), (.str [105, 110]), (.str [105, 110, 115, 105, 100, 101]), (.str [109, 97, 112]), (.str [110, 111]), (.str [110, 111, 110, 101]), (.str [110, 111, 116]), (.str [111, 102]), (.str [111, 110, 101]), (.str [111, 114]), (.str [111, 118, 101, 114]), (.str [115, 97, 109, 101]), (.str [115, 101, 97, 109]), (.str [115, 111, 109, 101]), (.str [116, 111, 117, 99, 104]), (.str [119, 97, 121]), (.str [122, 111, 110, 101])])
structure HF (K : PySem.W.Frag) (mg : Str → Option Value) : Prop where
  d : He.SaysD fa fn K
  ns : ∃ h : Heap, K.In h ∧ h.Ns mainGlobals mg
  ex : ex K = true
section
variable {K : PySem.W.Frag} {mg : Str → Option Value}
theorem hg_law_bag (h : HF K mg) : mg "_law_bag" = some (.ref (He.fAd K ("_law_bag", none))) := let ⟨_, X, G⟩ := h.ns; He.glo_ok X G (h.d.fact 0 (f := .glo "_law_bag") rfl)
theorem hg_law_take (h : HF K mg) : mg "_law_take" = some (.ref (He.fAd K ("_law_take", none))) := let ⟨_, X, G⟩ := h.ns; He.glo_ok X G (h.d.fact 1 (f := .glo "_law_take") rfl)
theorem hg_law_three (h : HF K mg) : mg "_law_three" = some (.ref (He.fAd K ("_law_three", none))) := let ⟨_, X, G⟩ := h.ns; He.glo_ok X G (h.d.fact 2 (f := .glo "_law_three") rfl)
theorem hg_law_couples (h : HF K mg) : mg "_law_couples" = some (.ref (He.fAd K ("_law_couples", none))) := let ⟨_, X, G⟩ := h.ns; He.glo_ok X G (h.d.fact 3 (f := .glo "_law_couples") rfl)
theorem hg_law_map (h : HF K mg) : mg "_law_map" = some (.ref (He.fAd K ("_law_map", none))) := let ⟨_, X, G⟩ := h.ns; He.glo_ok X G (h.d.fact 4 (f := .glo "_law_map") rfl)
theorem hg_law_some (h : HF K mg) : mg "_law_some" = some (.ref (He.fAd K ("_law_some", none))) := let ⟨_, X, G⟩ := h.ns; He.glo_ok X G (h.d.fact 5 (f := .glo "_law_some") rfl)
theorem hg_law_member (h : HF K mg) : mg "_law_member" = some (.ref (He.fAd K ("_law_member", none))) := let ⟨_, X, G⟩ := h.ns; He.glo_ok X G (h.d.fact 6 (f := .glo "_law_member") rfl)
theorem hg_law_alike (h : HF K mg) : mg "_law_alike" = some (.ref (He.fAd K ("_law_alike", none))) := let ⟨_, X, G⟩ := h.ns; He.glo_ok X G (h.d.fact 7 (f := .glo "_law_alike") rfl)
theorem hg_law_lots (h : HF K mg) : mg "_law_lots" = some (.ref (He.fAd K ("_law_lots", none))) := let ⟨_, X, G⟩ := h.ns; He.glo_ok X G (h.d.fact 8 (f := .glo "_law_lots") rfl)
theorem hg_names_of (h : HF K mg) : mg "names_of" = some (.ref (He.fAd K ("names_of", none))) := let ⟨_, X, G⟩ := h.ns; He.glo_ok X G (h.d.fact 9 (f := .glo "names_of") rfl)
theorem hg_memberships (h : HF K mg) : mg "memberships" = some (.ref (He.fAd K ("memberships", none))) := let ⟨_, X, G⟩ := h.ns; He.glo_ok X G (h.d.fact 10 (f := .glo "memberships") rfl)
theorem hg_cells_with (h : HF K mg) : mg "cells_with" = some (.ref (He.fAd K ("cells_with", none))) := let ⟨_, X, G⟩ := h.ns; He.glo_ok X G (h.d.fact 11 (f := .glo "cells_with") rfl)
theorem hg_is_integer (h : HF K mg) : mg "is_integer" = some (.ref (He.fAd K ("is_integer", none))) := let ⟨_, X, G⟩ := h.ns; He.glo_ok X G (h.d.fact 12 (f := .glo "is_integer") rfl)
theorem hg_is_count (h : HF K mg) : mg "is_count" = some (.ref (He.fAd K ("is_count", none))) := let ⟨_, X, G⟩ := h.ns; He.glo_ok X G (h.d.fact 13 (f := .glo "is_count") rfl)
theorem hg_is_counts (h : HF K mg) : mg "is_counts" = some (.ref (He.fAd K ("is_counts", none))) := let ⟨_, X, G⟩ := h.ns; He.glo_ok X G (h.d.fact 14 (f := .glo "is_counts") rfl)
theorem hg_check_cells (h : HF K mg) : mg "check_cells" = some (.ref (He.fAd K ("check_cells", none))) := let ⟨_, X, G⟩ := h.ns; He.glo_ok X G (h.d.fact 15 (f := .glo "check_cells") rfl)
theorem hg_seams_between (h : HF K mg) : mg "seams_between" = some (.ref (He.fAd K ("seams_between", none))) := let ⟨_, X, G⟩ := h.ns; He.glo_ok X G (h.d.fact 16 (f := .glo "seams_between") rfl)
theorem hg_check_cell (h : HF K mg) : mg "check_cell" = some (.ref (He.fAd K ("check_cell", none))) := let ⟨_, X, G⟩ := h.ns; He.glo_ok X G (h.d.fact 17 (f := .glo "check_cell") rfl)
theorem hg_membership (h : HF K mg) : mg "membership" = some (.ref (He.fAd K ("membership", none))) := let ⟨_, X, G⟩ := h.ns; He.glo_ok X G (h.d.fact 18 (f := .glo "membership") rfl)
theorem hg_has_seam (h : HF K mg) : mg "has_seam" = some (.ref (He.fAd K ("has_seam", none))) := let ⟨_, X, G⟩ := h.ns; He.glo_ok X G (h.d.fact 19 (f := .glo "has_seam") rfl)
theorem hg_is_name (h : HF K mg) : mg "is_name" = some (.ref (He.fAd K ("is_name", none))) := let ⟨_, X, G⟩ := h.ns; He.glo_ok X G (h.d.fact 20 (f := .glo "is_name") rfl)
theorem hg_cells_in (h : HF K mg) : mg "cells_in" = some (.ref (He.fAd K ("cells_in", none))) := let ⟨_, X, G⟩ := h.ns; He.glo_ok X G (h.d.fact 21 (f := .glo "cells_in") rfl)
theorem hg_beside (h : HF K mg) : mg "beside" = some (.ref (He.fAd K ("beside", none))) := let ⟨_, X, G⟩ := h.ns; He.glo_ok X G (h.d.fact 22 (f := .glo "beside") rfl)
theorem hg_law_near (h : HF K mg) : mg "_law_near" = some (.ref (He.fAd K ("_law_near", none))) := let ⟨_, X, G⟩ := h.ns; He.glo_ok X G (h.d.fact 23 (f := .glo "_law_near") rfl)
theorem hg_law_seams_of (h : HF K mg) : mg "_law_seams_of" = some (.ref (He.fAd K ("_law_seams_of", none))) := let ⟨_, X, G⟩ := h.ns; He.glo_ok X G (h.d.fact 24 (f := .glo "_law_seams_of") rfl)
theorem hg_law (h : HF K mg) : mg "law" = some (.ref (He.fAd K ("law", none))) := let ⟨_, X, G⟩ := h.ns; He.glo_ok X G (h.d.fact 25 (f := .glo "law") rfl)
theorem hg_law_heard (h : HF K mg) : mg "_law_heard" = some (.ref (He.fAd K ("_law_heard", none))) := let ⟨_, X, G⟩ := h.ns; He.glo_ok X G (h.d.fact 26 (f := .glo "_law_heard") rfl)
theorem hf_abs (h : HF K mg) : mg "abs" = none := let ⟨_, X, G⟩ := h.ns; He.free_ok X G (h.d.fact 27 (f := .free "abs") rfl)
theorem hf_all (h : HF K mg) : mg "all" = none := let ⟨_, X, G⟩ := h.ns; He.free_ok X G (h.d.fact 28 (f := .free "all") rfl)
theorem hf_bool (h : HF K mg) : mg "bool" = none := let ⟨_, X, G⟩ := h.ns; He.free_ok X G (h.d.fact 29 (f := .free "bool") rfl)
theorem hf_dict (h : HF K mg) : mg "dict" = none := let ⟨_, X, G⟩ := h.ns; He.free_ok X G (h.d.fact 30 (f := .free "dict") rfl)
theorem hf_enumerate (h : HF K mg) : mg "enumerate" = none := let ⟨_, X, G⟩ := h.ns; He.free_ok X G (h.d.fact 31 (f := .free "enumerate") rfl)
theorem hf_int (h : HF K mg) : mg "int" = none := let ⟨_, X, G⟩ := h.ns; He.free_ok X G (h.d.fact 32 (f := .free "int") rfl)
theorem hf_isinstance (h : HF K mg) : mg "isinstance" = none := let ⟨_, X, G⟩ := h.ns; He.free_ok X G (h.d.fact 33 (f := .free "isinstance") rfl)
theorem hf_len (h : HF K mg) : mg "len" = none := let ⟨_, X, G⟩ := h.ns; He.free_ok X G (h.d.fact 34 (f := .free "len") rfl)
theorem hf_list (h : HF K mg) : mg "list" = none := let ⟨_, X, G⟩ := h.ns; He.free_ok X G (h.d.fact 35 (f := .free "list") rfl)
theorem hf_max (h : HF K mg) : mg "max" = none := let ⟨_, X, G⟩ := h.ns; He.free_ok X G (h.d.fact 36 (f := .free "max") rfl)
theorem hf_min (h : HF K mg) : mg "min" = none := let ⟨_, X, G⟩ := h.ns; He.free_ok X G (h.d.fact 37 (f := .free "min") rfl)
theorem hf_range (h : HF K mg) : mg "range" = none := let ⟨_, X, G⟩ := h.ns; He.free_ok X G (h.d.fact 38 (f := .free "range") rfl)
theorem hf_repr (h : HF K mg) : mg "repr" = none := let ⟨_, X, G⟩ := h.ns; He.free_ok X G (h.d.fact 39 (f := .free "repr") rfl)
theorem hf_sorted (h : HF K mg) : mg "sorted" = none := let ⟨_, X, G⟩ := h.ns; He.free_ok X G (h.d.fact 40 (f := .free "sorted") rfl)
theorem hf_str (h : HF K mg) : mg "str" = none := let ⟨_, X, G⟩ := h.ns; He.free_ok X G (h.d.fact 41 (f := .free "str") rfl)
theorem hf_tuple (h : HF K mg) : mg "tuple" = none := let ⟨_, X, G⟩ := h.ns; He.free_ok X G (h.d.fact 42 (f := .free "tuple") rfl)
theorem xc_Nothing (h : HF K mg) : ExC K mg "Nothing" := let ⟨_, X, G⟩ := h.ns; exC_of X G (h.d.fact 43 (f := .glo "Nothing") rfl) (h.d.fact 44 (f := .exc "Nothing") rfl)
theorem xm_0 (h : HF K mg) : ExM K mg "Nothing" [("Nothing", true)] := by
  obtain ⟨_, X, G⟩ := h.ns
  refine ⟨_, He.glo_ok X G (h.d.fact 43 (f := .glo "Nothing") rfl), fun p hp => ?_⟩
  simp only [List.mem_cons, List.not_mem_nil, or_false] at hp
  rcases hp with rfl
  · exact ⟨_, He.glo_ok X G (h.d.fact 43 (f := .glo "Nothing") rfl), He.exm_ok (h.d.fact 45 (f := .exm "Nothing" "Nothing" true) rfl)⟩
theorem gc_MOST_LETTERS (h : HF K mg) : GC K mg "MOST_LETTERS" (.int 8) := let ⟨_, X, G⟩ := h.ns; gc_ok X G (Bool.and_eq_true_iff.mp (Bool.and_eq_true_iff.mp (Bool.and_eq_true_iff.mp (show ex K = true from h.ex)).1).1).1
theorem gc_LETTERS (h : HF K mg) : GC K mg "LETTERS" (.str [97, 98, 99, 100, 101, 102, 103, 104, 105, 106, 107, 108, 109, 110, 111, 112, 113, 114, 115, 116, 117, 118, 119, 120, 121, 122]) := let ⟨_, X, G⟩ := h.ns; gc_ok X G (Bool.and_eq_true_iff.mp (Bool.and_eq_true_iff.mp (Bool.and_eq_true_iff.mp (show ex K = true from h.ex)).1).1).2
theorem gc_DIGITS (h : HF K mg) : GC K mg "DIGITS" (.str [48, 49, 50, 51, 52, 53, 54, 55, 56, 57]) := let ⟨_, X, G⟩ := h.ns; gc_ok X G (Bool.and_eq_true_iff.mp (Bool.and_eq_true_iff.mp (show ex K = true from h.ex)).1).2
theorem gc_RESERVED (h : HF K mg) : GC K mg "RESERVED" (.tup [(.str [97, 108, 108]), (.str [97, 110, 100]), (.str [97, 112, 97, 114, 116]), (.str [98, 97, 114, 114, 101, 100]), (.str [99, 101, 108, 108]), (.str [100, 101, 101, 112]), (.str [104, 111, 108, 100, 115]), (.str [105, 110]), (.str [105, 110, 115, 105, 100, 101]), (.str [109, 97, 112]), (.str [110, 111]), (.str [110, 111, 110, 101]), (.str [110, 111, 116]), (.str [111, 102]), (.str [111, 110, 101]), (.str [111, 114]), (.str [111, 118, 101, 114]), (.str [115, 97, 109, 101]), (.str [115, 101, 97, 109]), (.str [115, 111, 109, 101]), (.str [116, 111, 117, 99, 104]), (.str [119, 97, 121]), (.str [122, 111, 110, 101])]) := let ⟨_, X, G⟩ := h.ns; gc_ok X G (Bool.and_eq_true_iff.mp (show ex K = true from h.ex)).2
end
section
variable {P : Program} {w : World} {K : PySem.W.Frag} {mg : Str → Option Value} {base : Heap}
theorem sc_law_heard : FnScope ["act"] ["act"] (defScope (top 36)) := ⟨rfl, rfl, rfl, by decide +kernel, rfl, by decide +kernel, by decide +kernel⟩
theorem sc_law_bag : FnScope ["script", "cell"] ["script"] (defScope (top 25)) := ⟨rfl, rfl, rfl, by decide +kernel, rfl, by decide +kernel, by decide +kernel⟩
theorem fs_law_bag (h : HF K mg) : Fs P w K mg base 1 "_law_bag" ["script"] f_law_bag := by
  obtain ⟨fd, F⟩ := h.d.def_ 0 (d := dd_law_bag) rfl
  exact (fs_mk (k := 0) F (hg_law_bag h) (F.bindsN fun _ _ _ _ _ _ us hl => match us, hl with | [_], _ => rfl) sc_law_bag fun cdv A outer s H E st => (show CSs _ (defBody (top 25)) m_law_bag from (css_one (cs_ret (ce_bag (ca_cons ce_int (ca_cons ce_int (ca_cons ce_int (ca_cons (ce_lc [("cell", 1)] st.toStd.hc st.toStd.hN (ci_any (ce_slice (ce_var 0) co_none (co_some ce_int))) (blkOk_by rfl) (by decide) (fun _ _ _ _ _ => (cg_name 1 (st.toStd).blk.hN)) (fun _ _ _ _ _ => cts_nil) (fun _ _ _ _ _ => (ce_B cb_abs rfl (hf_abs h) bt_abs (ca_cons (ce_var 1) ca_nil)))) ca_nil)))))))))
theorem sc_law_take : FnScope ["bag", "many", "begin", "second", "cell", "stirred", "value"] ["bag", "many"] (defScope (top 26)) := ⟨rfl, rfl, rfl, by decide +kernel, rfl, by decide +kernel, by decide +kernel⟩
theorem fs_law_take (h : HF K mg) : Fs P w K mg base 1 "_law_take" ["bag", "many"] f_law_take := by
  obtain ⟨fd, F⟩ := h.d.def_ 1 (d := dd_law_take) rfl
  exact (fs_mk (k := 0) F (hg_law_take h) (F.bindsN fun _ _ _ _ _ _ us hl => match us, hl with | [_, _], _ => rfl) sc_law_take fun cdv A outer s H E st => (show CSs _ (defBody (top 26)) m_law_take from (css_cons (cs_if (ct_cmp (od_eq st.toStd.hr) (ce_ix st.toStd.hr (ce_var 0) ce_int) ce_int) (css_cons (cs_set 4 st.toStd.hN (ce_ix st.toStd.hr (ce_bin od_add (ce_slice (ce_ix st.toStd.hr (ce_var 0) ce_int) (co_some (ce_ix st.toStd.hr (ce_var 0) ce_int)) co_none) (ce_lst (ca_cons ce_int ca_nil))) ce_int)) (css_cons (cs_augS st.toStd.hr (ce_var 0) ce_int od_iadd ce_int) (css_cons (cs_if (ct_cmp (od_cmp st.toStd.hr (.inr (.inr (.inr rfl)))) (ce_var 4) (ce_bin od_pow ce_int ce_int)) (css_one (cs_put st.toStd.hr (ce_var 4) (ce_var 0) ce_int)) css_nil) (css_cons (cs_set 5 st.toStd.hN (ce_bin od_add (ce_bin od_add (ce_bin od_mul (ce_ix st.toStd.hr (ce_var 0) ce_int) ce_int) (ce_bin od_mod (ce_Ty cb_int rfl (hf_int h) bt_int (ca_cons (ce_var 4) ca_nil)) ce_int)) (ce_bin od_mul ce_int (ce_ix st.toStd.hr (ce_var 0) ce_int)))) (css_one (cs_put st.toStd.hr (ce_bin od_mod (ce_Ty cb_int rfl (hf_int h) bt_int (ca_cons (ce_var 5) ca_nil)) ce_int) (ce_var 0) ce_int)))))) css_nil) (css_cons (cs_if (ct_cmp (od_cmp st.toStd.hr (.inr (.inr (.inl rfl)))) (ce_ix st.toStd.hr (ce_var 0) ce_int) ce_int) (css_cons (cs_set 6 st.toStd.hN (ce_bin od_mod (ce_Ty cb_int rfl (hf_int h) bt_int (ca_cons (ce_ix st.toStd.hr (ce_var 0) ce_int) ca_nil)) (ce_var 1))) (css_cons (cs_put st.toStd.hr (ce_bin od_div (ce_Ty cb_int rfl (hf_int h) bt_int (ca_cons (ce_ix st.toStd.hr (ce_var 0) ce_int) ca_nil)) (ce_var 1)) (ce_var 0) ce_int) (css_one (cs_ret (ce_var 6))))) css_nil) (css_cons (cs_set 2 st.toStd.hN (ce_bin od_mod (ce_Ty cb_int rfl (hf_int h) bt_int (ca_cons (ce_bin od_mul (ce_bin od_add (ce_ix st.toStd.hr (ce_var 0) ce_int) ce_int) ce_int) ca_nil)) ce_int)) (css_cons (cs_set 3 st.toStd.hN (ce_bin od_mod (ce_Ty cb_int rfl (hf_int h) bt_int (ca_cons (ce_bin od_mul (ce_bin od_mod (ce_Ty cb_int rfl (hf_int h) bt_int (ca_cons (ce_bin od_mul (ce_var 2) (ce_var 2)) ca_nil)) ce_int) ce_int) ca_nil)) ce_int)) (css_one (cs_ret (ce_bin od_mod (ce_Ty cb_int rfl (hf_int h) bt_int (ca_cons (ce_bin od_div (ce_var 3) ce_int) ca_nil)) (ce_var 1))))))))))
theorem sc_law_three : FnScope ["bag"] ["bag"] (defScope (top 33)) := ⟨rfl, rfl, rfl, by decide +kernel, rfl, by decide +kernel, by decide +kernel⟩
theorem fs_law_three (h : HF K mg) : Fs P w K mg base 2 "_law_three" ["bag"] f_law_three := by
  obtain ⟨fd, F⟩ := h.d.def_ 2 (d := dd_law_three) rfl
  exact (fs_mk (k := 1) F (hg_law_three h) (F.bindsN fun _ _ _ _ _ _ us hl => match us, hl with | [_], _ => rfl) sc_law_three fun cdv A outer s H E st => (show CSs _ (defBody (top 33)) m_law_three from (css_one (cs_ret (ce_slice (ce_tup (ca_cons (ce_str) (ca_cons (ce_str) (ca_cons (ce_str) ca_nil)))) co_none (co_some (ce_bin od_add ce_int (ce_fn (x := "_law_take") (fs_law_take h) st.toStd (by first | decide | omega) (by rfl) (ca_cons (ce_var 0) (ca_cons ce_int ca_nil))))))))))
theorem sc_law_couples : FnScope ["many", "found", "a", "b"] ["many"] (defScope (top 30)) := ⟨rfl, rfl, rfl, by decide +kernel, rfl, by decide +kernel, by decide +kernel⟩
theorem fs_law_couples (h : HF K mg) : Fs P w K mg base 1 "_law_couples" ["many"] f_law_couples := by
  obtain ⟨fd, F⟩ := h.d.def_ 3 (d := dd_law_couples) rfl
  exact (fs_mk (k := 0) F (hg_law_couples h) (F.bindsN fun _ _ _ _ _ _ us hl => match us, hl with | [_], _ => rfl) sc_law_couples fun cdv A outer s H E st => (show CSs _ (defBody (top 30)) m_law_couples from (css_cons (cs_set 1 st.toStd.hN (ce_lstR ca_nil)) (css_cons (cs_for st.hp st.toStd.hc (ci_range1 rfl (hf_range h) (ca_cons (ce_var 0) ca_nil)) (cg_name 2 st.toStd.hN) (css_one (cs_expr (ce_m PySem.F.plainAttrs_list PySem.F.slot_list_extend PySem.F.type_list_extend tyL_of mb_extend (ce_var 1) (ca_cons (ce_lc [("b", 3)] st.toStd.hc st.toStd.hN (ci_range2 rfl (hf_range h) (ca_cons (ce_bin od_add (ce_var 2) ce_int) (ca_cons (ce_var 0) ca_nil))) (blkOk_by rfl) (by decide) (fun _ _ _ _ _ => (cg_name 3 (st.toStd).blk.hN)) (fun _ _ _ _ _ => cts_nil) (fun _ _ _ _ _ => (ce_tup (ca_cons (ce_var 2) (ca_cons (ce_var 3) ca_nil))))) ca_nil))))) (css_one (cs_ret (ce_var 1))))))).A
theorem sc_law_map : FnScope ["bag", "names", "most", "many", "seams", "zones", "name", "cells", "couple", "cell"] ["bag", "names", "most"] (defScope (top 31)) := ⟨rfl, rfl, rfl, by decide +kernel, rfl, by decide +kernel, by decide +kernel⟩
theorem fs_law_map (h : HF K mg) : Fs P w K mg base 2 "_law_map" ["bag", "names", "most"] f_law_map := by
  obtain ⟨fd, F⟩ := h.d.def_ 4 (d := dd_law_map) rfl
  exact (fs_mk (k := 1) F (hg_law_map h) (F.bindsN fun _ _ _ _ _ _ us hl => match us, hl with | [_, _, _], _ => rfl) sc_law_map fun cdv A outer s H E st => (show CSs _ (defBody (top 31)) m_law_map from (css_cons (cs_set 3 st.toStd.hN (ce_bin od_add ce_int (ce_fn (x := "_law_take") (fs_law_take h) st.toStd (by first | decide | omega) (by rfl) (ca_cons (ce_var 0) (ca_cons (ce_var 2) ca_nil))))) (css_cons (cs_set 4 st.toStd.hN (ce_Ty cb_tuple rfl (hf_tuple h) bt_tuple (ca_cons (ce_lc [("couple", 8)] st.toStd.hc st.toStd.hN (ci_any (ce_fn (x := "_law_couples") (fs_law_couples h) st.toStd (by first | decide | omega) (by rfl) (ca_cons (ce_var 3) ca_nil))) (blkOk_by rfl) (by decide) (fun _ _ _ _ _ => (cg_name 8 (st.toStd).blk.hN)) (fun _ _ _ _ _ => (cts_one (ct_cmp (od_cmp (st.toStd).blk.hr (.inl rfl)) (ce_fn (x := "_law_take") (fs_law_take h) (st.toStd).blk (by first | decide | omega) (by rfl) (ca_cons (ce_var 0) (ca_cons ce_int ca_nil))) ce_int))) (fun _ _ _ _ _ => (ce_var 8))) ca_nil))) (css_cons (cs_set 5 st.toStd.hN (ce_lstR ca_nil)) (css_cons (cs_for st.hp st.toStd.hc (ci_any (ce_var 1)) (cg_name 6 st.toStd.hN) (css_cons (cs_setLc 7 [("cell", 9)] st.toStd.hc st.toStd.hN (ci_range1 rfl (hf_range h) (ca_cons (ce_var 3) ca_nil)) (blkOk_by rfl) (by decide) (fun _ _ _ _ _ => (cg_name 9 (st.toStd).blk.hN)) (fun _ _ _ _ _ => (cts_one (ct_cmp (od_eq (st.toStd).blk.hr) (ce_fn (x := "_law_take") (fs_law_take h) (st.toStd).blk (by first | decide | omega) (by rfl) (ca_cons (ce_var 0) (ca_cons ce_int ca_nil))) ce_int))) (fun _ _ _ _ _ => (ce_var 9))) (css_one (cs_expr (ce_m PySem.F.plainAttrs_list PySem.F.slot_list_append PySem.F.type_list_append tyL_of mb_append (ce_var 5) (ca_cons (ce_tup (ca_cons (ce_var 6) (ca_cons (ce_Ty cb_tuple rfl (hf_tuple h) bt_tuple (ca_cons (ce_if (ct_cmp (od_ne st.toStd.hr) (ce_var 7) (ce_lst ca_nil)) (ce_var 7) (ce_lst (ca_cons (ce_fn (x := "_law_take") (fs_law_take h) st.toStd (by first | decide | omega) (by rfl) (ca_cons (ce_var 0) (ca_cons (ce_var 3) ca_nil))) ca_nil))) ca_nil)) ca_nil))) ca_nil)))))) (css_one (cs_ret (ce_tup (ca_cons (ce_var 3) (ca_cons (ce_var 4) (ca_cons (ce_Ty cb_tuple rfl (hf_tuple h) bt_tuple (ca_cons (ce_var 5) ca_nil)) ca_nil))))))))))))
theorem sc_law_some : FnScope ["bag", "things"] ["bag", "things"] (defScope (top 27)) := ⟨rfl, rfl, rfl, by decide +kernel, rfl, by decide +kernel, by decide +kernel⟩
theorem fs_law_some (h : HF K mg) : Fs P w K mg base 2 "_law_some" ["bag", "things"] f_law_some := by
  obtain ⟨fd, F⟩ := h.d.def_ 5 (d := dd_law_some) rfl
  exact (fs_mk (k := 1) F (hg_law_some h) (F.bindsN fun _ _ _ _ _ _ us hl => match us, hl with | [_, _], _ => rfl) sc_law_some fun cdv A outer s H E st => (show CSs _ (defBody (top 27)) m_law_some from (css_one (cs_ret (ce_ix st.toStd.hr (ce_var 1) (ce_fn (x := "_law_take") (fs_law_take h) st.toStd (by first | decide | omega) (by rfl) (ca_cons (ce_var 0) (ca_cons (ce_B cb_len rfl (hf_len h) bt_len (ca_cons (ce_var 1) ca_nil)) ca_nil))))))))
theorem sc_law_member : FnScope ["its", "cell", "name", "cells"] ["its", "cell"] (defScope (top 32)) := ⟨rfl, rfl, rfl, by decide +kernel, rfl, by decide +kernel, by decide +kernel⟩
theorem fs_law_member (h : HF K mg) : Fs P w K mg base 1 "_law_member" ["its", "cell"] f_law_member := by
  obtain ⟨fd, F⟩ := h.d.def_ 6 (d := dd_law_member) rfl
  exact (fs_mk (k := 0) F (hg_law_member h) (F.bindsN fun _ _ _ _ _ _ us hl => match us, hl with | [_, _], _ => rfl) sc_law_member fun cdv A outer s H E st => (show CSs _ (defBody (top 32)) m_law_member from (css_one (cs_ret (ce_Ty cb_tuple rfl (hf_tuple h) bt_tuple (ca_cons (ce_lc [("name", 2), ("cells", 3)] st.toStd.hc st.toStd.hN (ci_any (ce_ix st.toStd.hr (ce_var 0) ce_int)) (blkOk_by rfl) (by decide) (fun _ _ _ _ _ => (cg_tup (st.toStd).blk.hc (cgs_cons (cg_name 2 (st.toStd).blk.hN) (cgs_cons (cg_name 3 (st.toStd).blk.hN) cgs_nil)))) (fun _ _ _ _ _ => (cts_one (ct_cmp (od_in (st.toStd).blk.hr) (ce_var 1) (ce_var 3)))) (fun _ _ _ _ _ => (ce_var 2))) ca_nil)))))).A
theorem sc_law_alike : FnScope ["found", "due"] ["found", "due"] (defScope (top 28)) := ⟨rfl, rfl, rfl, by decide +kernel, rfl, by decide +kernel, by decide +kernel⟩
theorem fs_law_alike (h : HF K mg) : Fs P w K mg base 1 "_law_alike" ["found", "due"] f_law_alike := by
  obtain ⟨fd, F⟩ := h.d.def_ 7 (d := dd_law_alike) rfl
  exact (fs_mk (k := 0) F (hg_law_alike h) (F.bindsN fun _ _ _ _ _ _ us hl => match us, hl with | [_, _], _ => rfl) sc_law_alike fun cdv A outer s H E st => (show CSs _ (defBody (top 28)) alikeC from (css_one (cs_ret (ce_and (ce_cmp (od_eq st.toStd.hr) (ce_B (cb_repr st.toStd.hr st.toStd.hg) rfl (hf_repr h) bt_repr (ca_cons (ce_var 0) ca_nil)) (ce_B (cb_repr st.toStd.hr st.toStd.hg) rfl (hf_repr h) bt_repr (ca_cons (ce_var 1) ca_nil))) (ce_one (ce_cmp (od_eq st.toStd.hr) (ce_var 0) (ce_var 1)))))))).imp alike_ok
theorem sc_law_lots : FnScope ["things", "found", "k", "size", "lot"] ["things"] (defScope (top 29)) := ⟨rfl, rfl, rfl, by decide +kernel, rfl, by decide +kernel, by decide +kernel⟩
theorem fs_law_lots (h : HF K mg) : Fs P w K mg base 1 "_law_lots" ["things"] f_law_lots := by
  obtain ⟨fd, F⟩ := h.d.def_ 8 (d := dd_law_lots) rfl
  exact (fs_mk (k := 0) F (hg_law_lots h) (F.bindsN fun _ _ _ _ _ _ us hl => match us, hl with | [_], _ => rfl) sc_law_lots fun cdv A outer s H E st => (show CSs _ (defBody (top 29)) m_law_lots from (css_cons (cs_set 1 st.toStd.hN (ce_lst (ca_cons (ce_tup ca_nil) ca_nil))) (css_cons (cs_for st.hp st.toStd.hc (ci_range1 rfl (hf_range h) (ca_cons (ce_B cb_len rfl (hf_len h) bt_len (ca_cons (ce_var 0) ca_nil)) ca_nil)) (cg_name 2 st.toStd.hN) (css_one (cs_set 1 st.toStd.hN (ce_bin od_add (ce_var 1) (ce_lc [("lot", 4)] st.toStd.hc st.toStd.hN (ci_any (ce_var 1)) (blkOk_by rfl) (by decide) (fun _ _ _ _ _ => (cg_name 4 (st.toStd).blk.hN)) (fun _ _ _ _ _ => cts_nil) (fun _ _ _ _ _ => (ce_bin od_add (ce_var 4) (ce_tup (ca_cons (ce_var 2) ca_nil))))))))) (css_one (cs_ret (ce_lc [("size", 3), ("lot", 4)] st.toStd.hc st.toStd.hN (ci_any (ce_B (cb_sorted st.toStd.hr st.toStd.hc) rfl (hf_sorted h) bt_sorted (ca_cons (ce_lc [("lot", 4)] st.toStd.hc st.toStd.hN (ci_any (ce_var 1)) (blkOk_by rfl) (by decide) (fun _ _ _ _ _ => (cg_name 4 (st.toStd).blk.hN)) (fun _ _ _ _ _ => cts_nil) (fun _ _ _ _ _ => (ce_tup (ca_cons (ce_B cb_len rfl (hf_len h) bt_len (ca_cons (ce_var 4) ca_nil)) (ca_cons (ce_var 4) ca_nil))))) ca_nil))) (blkOk_by rfl) (by decide) (fun _ _ _ _ _ => (cg_tup (st.toStd).blk.hc (cgs_cons (cg_name 3 (st.toStd).blk.hN) (cgs_cons (cg_name 4 (st.toStd).blk.hN) cgs_nil)))) (fun _ _ _ _ _ => cts_nil) (fun _ _ _ _ _ => (ce_Ty cb_tuple rfl (hf_tuple h) bt_tuple (ca_cons (ce_lc [("k", 2)] (st.toStd).blk.hc (st.toStd).blk.hN (ci_any (ce_var 4)) (blkOk_by rfl) (by decide) (fun _ _ _ _ _ => (cg_name 2 ((st.toStd).blk).blk.hN)) (fun _ _ _ _ _ => cts_nil) (fun _ _ _ _ _ => (ce_ix ((st.toStd).blk).blk.hr (ce_var 0) (ce_var 2)))) ca_nil)))))))))).A
theorem sc_names_of : FnScope ["its", "name", "cells"] ["its"] (defScope (top 14)) := ⟨rfl, rfl, rfl, by decide +kernel, rfl, by decide +kernel, by decide +kernel⟩
theorem fs_names_of (h : HF K mg) : Fs P w K mg base 1 "names_of" ["its"] f_names_of := by
  obtain ⟨fd, F⟩ := h.d.def_ 9 (d := dd_names_of) rfl
  exact (fs_mk (k := 0) F (hg_names_of h) (F.bindsN fun _ _ _ _ _ _ us hl => match us, hl with | [_], _ => rfl) sc_names_of fun cdv A outer s H E st => (show CSs _ (defBody (top 14)) m_names_of from (css_one (cs_ret (ce_Ty cb_tuple rfl (hf_tuple h) bt_tuple (ca_cons (ce_lc [("name", 1), ("cells", 2)] st.toStd.hc st.toStd.hN (ci_any (ce_ix st.toStd.hr (ce_var 0) ce_int)) (blkOk_by rfl) (by decide) (fun _ _ _ _ _ => (cg_tup (st.toStd).blk.hc (cgs_cons (cg_name 1 (st.toStd).blk.hN) (cgs_cons (cg_name 2 (st.toStd).blk.hN) cgs_nil)))) (fun _ _ _ _ _ => cts_nil) (fun _ _ _ _ _ => (ce_var 1))) ca_nil)))))).A
theorem sc_memberships : FnScope ["its", "found", "name", "cells", "cell", "_cell", "names"] ["its"] (defScope (top 19)) := ⟨rfl, rfl, rfl, by decide +kernel, rfl, by decide +kernel, by decide +kernel⟩
theorem fs_memberships (h : HF K mg) : Fs P w K mg base 1 "memberships" ["its"] f_memberships := by
  obtain ⟨fd, F⟩ := h.d.def_ 10 (d := dd_memberships) rfl
  exact (fs_mk (k := 0) F (hg_memberships h) (F.bindsN fun _ _ _ _ _ _ us hl => match us, hl with | [_], _ => rfl) sc_memberships fun cdv A outer s H E st => (show CSs _ (defBody (top 19)) m_memberships from (css_cons (cs_setLc 1 [("_cell", 5)] st.toStd.hc st.toStd.hN (ci_range1 rfl (hf_range h) (ca_cons (ce_ix st.toStd.hr (ce_var 0) ce_int) ca_nil)) (blkOk_by rfl) (by decide) (fun _ _ _ _ _ => (cg_name 5 (st.toStd).blk.hN)) (fun _ _ _ _ _ => cts_nil) (fun _ _ _ _ _ => (ce_lstR ca_nil))) (css_cons (cs_for st.hp st.toStd.hc (ci_any (ce_ix st.toStd.hr (ce_var 0) ce_int)) (cg_tup st.toStd.hc (cgs_cons (cg_name 2 st.toStd.hN) (cgs_cons (cg_name 3 st.toStd.hN) cgs_nil))) (css_one (cs_for st.hp st.toStd.hc (ci_any (ce_var 3)) (cg_name 4 st.toStd.hN) (css_one (cs_expr (ce_m PySem.F.plainAttrs_list PySem.F.slot_list_append PySem.F.type_list_append tyL_of mb_append (ce_ix st.toStd.hr (ce_var 1) (ce_var 4)) (ca_cons (ce_var 2) ca_nil))))))) (css_one (cs_ret (ce_Ty cb_tuple rfl (hf_tuple h) bt_tuple (ca_cons (ce_lc [("names", 6)] st.toStd.hc st.toStd.hN (ci_any (ce_var 1)) (blkOk_by rfl) (by decide) (fun _ _ _ _ _ => (cg_name 6 (st.toStd).blk.hN)) (fun _ _ _ _ _ => cts_nil) (fun _ _ _ _ _ => (ce_Ty cb_tuple rfl (hf_tuple h) bt_tuple (ca_cons (ce_var 6) ca_nil)))) ca_nil)))))))).A
theorem sc_cells_with : FnScope ["its", "names", "cell", "told"] ["its", "names"] (defScope (top 20)) := ⟨rfl, rfl, rfl, by decide +kernel, rfl, by decide +kernel, by decide +kernel⟩
theorem fs_cells_with (h : HF K mg) : Fs P w K mg base 2 "cells_with" ["its", "names"] f_cells_with := by
  obtain ⟨fd, F⟩ := h.d.def_ 11 (d := dd_cells_with) rfl
  exact (fs_mk (k := 1) F (hg_cells_with h) (F.bindsN fun _ _ _ _ _ _ us hl => match us, hl with | [_, _], _ => rfl) sc_cells_with fun cdv A outer s H E st => (show CSs _ (defBody (top 20)) m_cells_with from (css_one (cs_ret (ce_Ty cb_tuple rfl (hf_tuple h) bt_tuple (ca_cons (ce_lc [("cell", 2), ("told", 3)] st.toStd.hc st.toStd.hN (ci_enum rfl (hf_enumerate h) (ca_cons (ce_fn (x := "memberships") (fs_memberships h) st.toStd (by first | decide | omega) (by rfl) (ca_cons (ce_var 0) ca_nil)) ca_nil)) (blkOk_by rfl) (by decide) (fun _ _ _ _ _ => (cg_tup (st.toStd).blk.hc (cgs_cons (cg_name 2 (st.toStd).blk.hN) (cgs_cons (cg_name 3 (st.toStd).blk.hN) cgs_nil)))) (fun _ _ _ _ _ => (cts_one (ct_cmp (od_eq (st.toStd).blk.hr) (ce_var 3) (ce_var 1)))) (fun _ _ _ _ _ => (ce_var 2))) ca_nil)))))).A
theorem sc_is_integer : FnScope ["thing"] ["thing"] (defScope (top 9)) := ⟨rfl, rfl, rfl, by decide +kernel, rfl, by decide +kernel, by decide +kernel⟩
theorem fs_is_integer (h : HF K mg) : Fs P w K mg base 1 "is_integer" ["thing"] f_is_integer := by
  obtain ⟨fd, F⟩ := h.d.def_ 12 (d := dd_is_integer) rfl
  exact (fs_mk (k := 0) F (hg_is_integer h) (F.bindsN fun _ _ _ _ _ _ us hl => match us, hl with | [_], _ => rfl) sc_is_integer fun cdv A outer s H E st => (show CSs _ (defBody (top 9)) m_is_integer from (css_one (cs_ret (ce_and (ce_isi .int rfl (hf_isinstance h) (ce_var 0) rfl (hf_int h)) (ce_one (ce_not (ce_isi .bool rfl (hf_isinstance h) (ce_var 0) rfl (hf_bool h))))))))).A
theorem sc_is_count : FnScope ["thing"] ["thing"] (defScope (top 10)) := ⟨rfl, rfl, rfl, by decide +kernel, rfl, by decide +kernel, by decide +kernel⟩
theorem fs_is_count (h : HF K mg) : Fs P w K mg base 2 "is_count" ["thing"] f_is_count := by
  obtain ⟨fd, F⟩ := h.d.def_ 13 (d := dd_is_count) rfl
  exact (fs_mk (k := 1) F (hg_is_count h) (F.bindsN fun _ _ _ _ _ _ us hl => match us, hl with | [_], _ => rfl) sc_is_count fun cdv A outer s H E st => (show CSs _ (defBody (top 10)) m_is_count from (css_one (cs_ret (ce_and (ce_fn (x := "is_integer") (fs_is_integer h) st.toStd (by first | decide | omega) (by rfl) (ca_cons (ce_var 0) ca_nil)) (ce_one (ce_cmp (od_cmp st.toStd.hr (.inr (.inr (.inr rfl)))) (ce_var 0) ce_int))))))).A
theorem sc_is_counts : FnScope ["thing", "one"] ["thing"] (defScope (top 13)) := ⟨rfl, rfl, rfl, by decide +kernel, rfl, by decide +kernel, by decide +kernel⟩
theorem fs_is_counts (h : HF K mg) : Fs P w K mg base 3 "is_counts" ["thing"] f_is_counts := by
  obtain ⟨fd, F⟩ := h.d.def_ 14 (d := dd_is_counts) rfl
  exact (fs_mk (k := 2) F (hg_is_counts h) (F.bindsN fun _ _ _ _ _ _ us hl => match us, hl with | [_], _ => rfl) sc_is_counts fun cdv A outer s H E st => (show CSs _ (defBody (top 13)) m_is_counts from (css_one (cs_ret (ce_and (ce_isi .tuple rfl (hf_isinstance h) (ce_var 0) rfl (hf_tuple h)) (ce_one (ce_B (cb_all st.toStd.hc) rfl (hf_all h) bt_all (ca_cons (ce_lc [("one", 1)] st.toStd.hc st.toStd.hN (ci_any (ce_var 0)) (blkOk_by rfl) (by decide) (fun _ _ _ _ _ => (cg_name 1 (st.toStd).blk.hN)) (fun _ _ _ _ _ => cts_nil) (fun _ _ _ _ _ => (ce_fn (x := "is_count") (fs_is_count h) (st.toStd).blk (by first | decide | omega) (by rfl) (ca_cons (ce_var 1) ca_nil)))) ca_nil)))))))).A
theorem sc_check_cells : FnScope ["its", "cells", "cell"] ["its", "cells"] (defScope (top 17)) := ⟨rfl, rfl, rfl, by decide +kernel, rfl, by decide +kernel, by decide +kernel⟩
theorem fs_check_cells (h : HF K mg) : Fs P w K mg base 4 "check_cells" ["its", "cells"] f_check_cells := by
  obtain ⟨fd, F⟩ := h.d.def_ 15 (d := dd_check_cells) rfl
  exact (fs_mk (k := 3) F (hg_check_cells h) (F.bindsN fun _ _ _ _ _ _ us hl => match us, hl with | [_, _], _ => rfl) sc_check_cells fun cdv A outer s H E st => (show CSs _ (defBody (top 17)) m_check_cells from (css_one (cs_if (ct_w (cw_or (ct_not (ct_val (ce_fn (x := "is_counts") (fs_is_counts h) st.toStd (by first | decide | omega) (by rfl) (ca_cons (ce_var 1) ca_nil)))) (cw_or1 (ct_not (ct_val (ce_B (cb_all st.toStd.hc) rfl (hf_all h) bt_all (ca_cons (ce_lc [("cell", 2)] st.toStd.hc st.toStd.hN (ci_any (ce_var 1)) (blkOk_by rfl) (by decide) (fun _ _ _ _ _ => (cg_name 2 (st.toStd).blk.hN)) (fun _ _ _ _ _ => cts_nil) (fun _ _ _ _ _ => (ce_cmp (od_cmp (st.toStd).blk.hr (.inl rfl)) (ce_var 2) (ce_ix (st.toStd).blk.hr (ce_var 0) ce_int)))) ca_nil))))))) (css_one (cs_raise (xc_Nothing h) st.toStd.hc rfl)) css_nil)))).A
theorem sc_seams_between : FnScope ["its", "ones", "others", "found", "mine", "theirs", "one", "other", "cell"] ["its", "ones", "others"] (defScope (top 23)) := ⟨rfl, rfl, rfl, by decide +kernel, rfl, by decide +kernel, by decide +kernel⟩
theorem fs_seams_between (h : HF K mg) : Fs P w K mg base 5 "seams_between" ["its", "ones", "others"] f_seams_between := by
  obtain ⟨fd, F⟩ := h.d.def_ 16 (d := dd_seams_between) rfl
  exact (fs_mk (k := 4) F (hg_seams_between h) (F.bindsN fun _ _ _ _ _ _ us hl => match us, hl with | [_, _, _], _ => rfl) sc_seams_between fun cdv A outer s H E st => (show CSs _ (defBody (top 23)) m_seams_between from (css_cons (cs_expr (ce_fn (x := "check_cells") (fs_check_cells h) st.toStd (by first | decide | omega) (by rfl) (ca_cons (ce_var 0) (ca_cons (ce_var 1) ca_nil)))) (css_cons (cs_expr (ce_fn (x := "check_cells") (fs_check_cells h) st.toStd (by first | decide | omega) (by rfl) (ca_cons (ce_var 0) (ca_cons (ce_var 2) ca_nil)))) (css_cons (cs_par 4 5 st.toStd.hc st.toStd.hN (ca_cons (ce_dc [("cell", 8)] st.toStd.hc st.toStd.hN (ci_any (ce_var 1)) (blkOk_by rfl) (by decide) (fun _ _ _ _ _ => (cg_name 8 (st.toStd).blk.hN)) (fun _ _ _ _ _ => cts_nil) (fun _ _ _ _ _ => (ce_var 8)) (fun _ _ _ _ _ => ce_bl)) (ca_cons (ce_dc [("cell", 8)] st.toStd.hc st.toStd.hN (ci_any (ce_var 2)) (blkOk_by rfl) (by decide) (fun _ _ _ _ _ => (cg_name 8 (st.toStd).blk.hN)) (fun _ _ _ _ _ => cts_nil) (fun _ _ _ _ _ => (ce_var 8)) (fun _ _ _ _ _ => ce_bl)) ca_nil))) (css_cons (cs_set 3 st.toStd.hN (ce_lstR ca_nil)) (css_cons (cs_for st.hp st.toStd.hc (ci_any (ce_ix st.toStd.hr (ce_var 0) ce_int)) (cg_tup st.toStd.hc (cgs_cons (cg_name 6 st.toStd.hN) (cgs_cons (cg_name 7 st.toStd.hN) cgs_nil))) (css_one (cs_if (ct_w (cw_or (ct_w (cw_and (ct_cmp (od_in st.toStd.hr) (ce_var 6) (ce_var 4)) (cw_and1 (ct_cmp (od_in st.toStd.hr) (ce_var 7) (ce_var 5))))) (cw_or1 (ct_w (cw_and (ct_cmp (od_in st.toStd.hr) (ce_var 7) (ce_var 4)) (cw_and1 (ct_cmp (od_in st.toStd.hr) (ce_var 6) (ce_var 5)))))))) (css_one (cs_expr (ce_m PySem.F.plainAttrs_list PySem.F.slot_list_append PySem.F.type_list_append tyL_of mb_append (ce_var 3) (ca_cons (ce_tup (ca_cons (ce_var 6) (ca_cons (ce_var 7) ca_nil))) ca_nil)))) css_nil))) (css_one (cs_ret (ce_Ty cb_tuple rfl (hf_tuple h) bt_tuple (ca_cons (ce_var 3) ca_nil))))))))))).A
theorem sc_check_cell : FnScope ["its", "cell"] ["its", "cell"] (defScope (top 16)) := ⟨rfl, rfl, rfl, by decide +kernel, rfl, by decide +kernel, by decide +kernel⟩
theorem fs_check_cell (h : HF K mg) : Fs P w K mg base 3 "check_cell" ["its", "cell"] f_check_cell := by
  obtain ⟨fd, F⟩ := h.d.def_ 17 (d := dd_check_cell) rfl
  exact (fs_mk (k := 2) F (hg_check_cell h) (F.bindsN fun _ _ _ _ _ _ us hl => match us, hl with | [_, _], _ => rfl) sc_check_cell fun cdv A outer s H E st => (show CSs _ (defBody (top 16)) m_check_cell from (css_one (cs_if (ct_w (cw_or (ct_not (ct_val (ce_fn (x := "is_count") (fs_is_count h) st.toStd (by first | decide | omega) (by rfl) (ca_cons (ce_var 1) ca_nil)))) (cw_or1 (ct_cmp (od_cmp st.toStd.hr (.inr (.inr (.inr rfl)))) (ce_var 1) (ce_ix st.toStd.hr (ce_var 0) ce_int))))) (css_one (cs_raise (xc_Nothing h) st.toStd.hc rfl)) css_nil)))).A
theorem sc_membership : FnScope ["its", "cell", "name", "cells"] ["its", "cell"] (defScope (top 18)) := ⟨rfl, rfl, rfl, by decide +kernel, rfl, by decide +kernel, by decide +kernel⟩
theorem fs_membership (h : HF K mg) : Fs P w K mg base 4 "membership" ["its", "cell"] f_membership := by
  obtain ⟨fd, F⟩ := h.d.def_ 18 (d := dd_membership) rfl
  exact (fs_mk (k := 3) F (hg_membership h) (F.bindsN fun _ _ _ _ _ _ us hl => match us, hl with | [_, _], _ => rfl) sc_membership fun cdv A outer s H E st => (show CSs _ (defBody (top 18)) m_membership from (css_cons (cs_expr (ce_fn (x := "check_cell") (fs_check_cell h) st.toStd (by first | decide | omega) (by rfl) (ca_cons (ce_var 0) (ca_cons (ce_var 1) ca_nil)))) (css_one (cs_ret (ce_Ty cb_tuple rfl (hf_tuple h) bt_tuple (ca_cons (ce_lc [("name", 2), ("cells", 3)] st.toStd.hc st.toStd.hN (ci_any (ce_ix st.toStd.hr (ce_var 0) ce_int)) (blkOk_by rfl) (by decide) (fun _ _ _ _ _ => (cg_tup (st.toStd).blk.hc (cgs_cons (cg_name 2 (st.toStd).blk.hN) (cgs_cons (cg_name 3 (st.toStd).blk.hN) cgs_nil)))) (fun _ _ _ _ _ => (cts_one (ct_cmp (od_in (st.toStd).blk.hr) (ce_var 1) (ce_var 3)))) (fun _ _ _ _ _ => (ce_var 2))) ca_nil))))))).A
theorem sc_has_seam : FnScope ["its", "one", "other"] ["its", "one", "other"] (defScope (top 22)) := ⟨rfl, rfl, rfl, by decide +kernel, rfl, by decide +kernel, by decide +kernel⟩
theorem fs_has_seam (h : HF K mg) : Fs P w K mg base 5 "has_seam" ["its", "one", "other"] f_has_seam := by
  obtain ⟨fd, F⟩ := h.d.def_ 19 (d := dd_has_seam) rfl
  exact (fs_mk (k := 4) F (hg_has_seam h) (F.bindsN fun _ _ _ _ _ _ us hl => match us, hl with | [_, _, _], _ => rfl) sc_has_seam fun cdv A outer s H E st => (show CSs _ (defBody (top 22)) m_has_seam from (css_cons (cs_expr (ce_fn (x := "check_cells") (fs_check_cells h) st.toStd (by first | decide | omega) (by rfl) (ca_cons (ce_var 0) (ca_cons (ce_tup (ca_cons (ce_var 1) (ca_cons (ce_var 2) ca_nil))) ca_nil)))) (css_one (cs_ret (ce_cmp (od_in st.toStd.hr) (ce_tup (ca_cons (ce_B (cb_min st.toStd.hc) rfl (hf_min h) bt_min (ca_cons (ce_var 1) (ca_cons (ce_var 2) ca_nil))) (ca_cons (ce_B (cb_max st.toStd.hc) rfl (hf_max h) bt_max (ca_cons (ce_var 1) (ca_cons (ce_var 2) ca_nil))) ca_nil))) (ce_ix st.toStd.hr (ce_var 0) ce_int))))))).A
theorem sc_is_name : FnScope ["thing", "sign"] ["thing"] (defScope (top 11)) := ⟨rfl, rfl, rfl, by decide +kernel, rfl, by decide +kernel, by decide +kernel⟩
theorem fs_is_name (h : HF K mg) : Fs P w K mg base 1 "is_name" ["thing"] f_is_name := by
  obtain ⟨fd, F⟩ := h.d.def_ 20 (d := dd_is_name) rfl
  exact (fs_mk (k := 0) F (hg_is_name h) (F.bindsN fun _ _ _ _ _ _ us hl => match us, hl with | [_], _ => rfl) sc_is_name fun cdv A outer s H E st => (show CSs _ (defBody (top 11)) m_is_name from (css_cons (cs_if (ct_w (cw_or (ct_not (ct_val (ce_isi .str rfl (hf_isinstance h) (ce_var 0) rfl (hf_str h)))) (cw_or (ct_not (ct_chain (od_cmp st.toStd.hr (.inr (.inl rfl))) (od_cmp st.toStd.hr (.inr (.inl rfl))) ce_int (ce_B cb_len rfl (hf_len h) bt_len (ca_cons (ce_var 0) ca_nil)) (ce_gc (gc_MOST_LETTERS h) rfl))) (cw_or1 (ct_cmp (od_notIn st.toStd.hr) (ce_ix st.toStd.hr (ce_var 0) ce_int) (ce_gc (gc_LETTERS h) rfl)))))) (css_one (cs_ret ce_bl)) css_nil) (css_one (cs_ret (ce_and (ce_B (cb_all st.toStd.hc) rfl (hf_all h) bt_all (ca_cons (ce_lc [("sign", 1)] st.toStd.hc st.toStd.hN (ci_any (ce_var 0)) (blkOk_by rfl) (by decide) (fun _ _ _ _ _ => (cg_name 1 (st.toStd).blk.hN)) (fun _ _ _ _ _ => cts_nil) (fun _ _ _ _ _ => (ce_cmp (od_in (st.toStd).blk.hr) (ce_var 1) (ce_bin od_add (ce_gc (gc_LETTERS h) rfl) (ce_gc (gc_DIGITS h) rfl))))) ca_nil)) (ce_one (ce_cmp (od_notIn st.toStd.hr) (ce_var 0) (ce_gc (gc_RESERVED h) rfl))))))))).A
theorem sc_cells_in : FnScope ["its", "name", "zones"] ["its", "name"] (defScope (top 15)) := ⟨rfl, rfl, rfl, by decide +kernel, rfl, by decide +kernel, by decide +kernel⟩
theorem fs_cells_in (h : HF K mg) : Fs P w K mg base 2 "cells_in" ["its", "name"] f_cells_in := by
  obtain ⟨fd, F⟩ := h.d.def_ 21 (d := dd_cells_in) rfl
  exact (fs_mk (k := 1) F (hg_cells_in h) (F.bindsN fun _ _ _ _ _ _ us hl => match us, hl with | [_, _], _ => rfl) sc_cells_in fun cdv A outer s H E st => (show CSs _ (defBody (top 15)) m_cells_in from (css_cons (cs_set 2 st.toStd.hN (ce_Ty (cb_dict st.toStd.hc) rfl (hf_dict h) bt_dict (ca_cons (ce_ix st.toStd.hr (ce_var 0) ce_int) ca_nil))) (css_cons (cs_if (ct_w (cw_or (ct_not (ct_val (ce_fn (x := "is_name") (fs_is_name h) st.toStd (by first | decide | omega) (by rfl) (ca_cons (ce_var 1) ca_nil)))) (cw_or1 (ct_cmp (od_notIn st.toStd.hr) (ce_var 1) (ce_var 2))))) (css_one (cs_raise (xc_Nothing h) st.toStd.hc rfl)) css_nil) (css_one (cs_ret (ce_ix st.toStd.hr (ce_var 2) (ce_var 1)))))))).A
theorem sc_beside : FnScope ["its", "cell", "found", "one", "other"] ["its", "cell"] (defScope (top 21)) := ⟨rfl, rfl, rfl, by decide +kernel, rfl, by decide +kernel, by decide +kernel⟩
theorem fs_beside (h : HF K mg) : Fs P w K mg base 4 "beside" ["its", "cell"] f_beside := by
  obtain ⟨fd, F⟩ := h.d.def_ 22 (d := dd_beside) rfl
  exact (fs_mk (k := 3) F (hg_beside h) (F.bindsN fun _ _ _ _ _ _ us hl => match us, hl with | [_, _], _ => rfl) sc_beside fun cdv A outer s H E st => (show CSs _ (defBody (top 21)) m_beside from (css_cons (cs_expr (ce_fn (x := "check_cell") (fs_check_cell h) st.toStd (by first | decide | omega) (by rfl) (ca_cons (ce_var 0) (ca_cons (ce_var 1) ca_nil)))) (css_cons (cs_set 2 st.toStd.hN (ce_bin od_add (ce_lc [("one", 3), ("other", 4)] st.toStd.hc st.toStd.hN (ci_any (ce_ix st.toStd.hr (ce_var 0) ce_int)) (blkOk_by rfl) (by decide) (fun _ _ _ _ _ => (cg_tup (st.toStd).blk.hc (cgs_cons (cg_name 3 (st.toStd).blk.hN) (cgs_cons (cg_name 4 (st.toStd).blk.hN) cgs_nil)))) (fun _ _ _ _ _ => (cts_one (ct_cmp (od_eq (st.toStd).blk.hr) (ce_var 3) (ce_var 1)))) (fun _ _ _ _ _ => (ce_var 4))) (ce_lc [("one", 3), ("other", 4)] st.toStd.hc st.toStd.hN (ci_any (ce_ix st.toStd.hr (ce_var 0) ce_int)) (blkOk_by rfl) (by decide) (fun _ _ _ _ _ => (cg_tup (st.toStd).blk.hc (cgs_cons (cg_name 3 (st.toStd).blk.hN) (cgs_cons (cg_name 4 (st.toStd).blk.hN) cgs_nil)))) (fun _ _ _ _ _ => (cts_one (ct_cmp (od_eq (st.toStd).blk.hr) (ce_var 4) (ce_var 1)))) (fun _ _ _ _ _ => (ce_var 3))))) (css_one (cs_ret (ce_Ty cb_tuple rfl (hf_tuple h) bt_tuple (ca_cons (ce_B (cb_sorted st.toStd.hr st.toStd.hc) rfl (hf_sorted h) bt_sorted (ca_cons (ce_var 2) ca_nil)) ca_nil)))))))).A
theorem sc_law_near : FnScope ["its", "cell", "a", "b"] ["its", "cell"] (defScope (top 34)) := ⟨rfl, rfl, rfl, by decide +kernel, rfl, by decide +kernel, by decide +kernel⟩
theorem fs_law_near (h : HF K mg) : Fs P w K mg base 1 "_law_near" ["its", "cell"] f_law_near := by
  obtain ⟨fd, F⟩ := h.d.def_ 23 (d := dd_law_near) rfl
  exact (fs_mk (k := 0) F (hg_law_near h) (F.bindsN fun _ _ _ _ _ _ us hl => match us, hl with | [_, _], _ => rfl) sc_law_near fun cdv A outer s H E st => (show CSs _ (defBody (top 34)) m_law_near from (css_one (cs_ret (ce_Ty cb_tuple rfl (hf_tuple h) bt_tuple (ca_cons (ce_B (cb_sorted st.toStd.hr st.toStd.hc) rfl (hf_sorted h) bt_sorted (ca_cons (ce_bin od_add (ce_lc [("a", 2), ("b", 3)] st.toStd.hc st.toStd.hN (ci_any (ce_ix st.toStd.hr (ce_var 0) ce_int)) (blkOk_by rfl) (by decide) (fun _ _ _ _ _ => (cg_tup (st.toStd).blk.hc (cgs_cons (cg_name 2 (st.toStd).blk.hN) (cgs_cons (cg_name 3 (st.toStd).blk.hN) cgs_nil)))) (fun _ _ _ _ _ => (cts_one (ct_cmp (od_eq (st.toStd).blk.hr) (ce_var 2) (ce_var 1)))) (fun _ _ _ _ _ => (ce_var 3))) (ce_lc [("a", 2), ("b", 3)] st.toStd.hc st.toStd.hN (ci_any (ce_ix st.toStd.hr (ce_var 0) ce_int)) (blkOk_by rfl) (by decide) (fun _ _ _ _ _ => (cg_tup (st.toStd).blk.hc (cgs_cons (cg_name 2 (st.toStd).blk.hN) (cgs_cons (cg_name 3 (st.toStd).blk.hN) cgs_nil)))) (fun _ _ _ _ _ => (cts_one (ct_cmp (od_eq (st.toStd).blk.hr) (ce_var 3) (ce_var 1)))) (fun _ _ _ _ _ => (ce_var 2)))) ca_nil)) ca_nil)))))).A
theorem sc_law_seams_of : FnScope ["its", "ones", "others", "found", "a", "b"] ["its", "ones", "others"] (defScope (top 35)) := ⟨rfl, rfl, rfl, by decide +kernel, rfl, by decide +kernel, by decide +kernel⟩
theorem fs_law_seams_of (h : HF K mg) : Fs P w K mg base 1 "_law_seams_of" ["its", "ones", "others"] f_law_seams_of := by
  obtain ⟨fd, F⟩ := h.d.def_ 24 (d := dd_law_seams_of) rfl
  exact (fs_mk (k := 0) F (hg_law_seams_of h) (F.bindsN fun _ _ _ _ _ _ us hl => match us, hl with | [_, _, _], _ => rfl) sc_law_seams_of fun cdv A outer s H E st => (show CSs _ (defBody (top 35)) m_law_seams_of from (css_cons (cs_set 3 st.toStd.hN (ce_lstR ca_nil)) (css_cons (cs_for st.hp st.toStd.hc (ci_any (ce_ix st.toStd.hr (ce_var 0) ce_int)) (cg_tup st.toStd.hc (cgs_cons (cg_name 4 st.toStd.hN) (cgs_cons (cg_name 5 st.toStd.hN) cgs_nil))) (css_one (cs_expr (ce_m PySem.F.plainAttrs_list PySem.F.slot_list_extend PySem.F.type_list_extend tyL_of mb_extend (ce_var 3) (ca_cons (ce_if (ct_w (cw_or (ct_w (cw_and (ct_cmp (od_in st.toStd.hr) (ce_var 4) (ce_var 1)) (cw_and1 (ct_cmp (od_in st.toStd.hr) (ce_var 5) (ce_var 2))))) (cw_or1 (ct_w (cw_and (ct_cmp (od_in st.toStd.hr) (ce_var 5) (ce_var 1)) (cw_and1 (ct_cmp (od_in st.toStd.hr) (ce_var 4) (ce_var 2)))))))) (ce_lst (ca_cons (ce_tup (ca_cons (ce_var 4) (ca_cons (ce_var 5) ca_nil))) ca_nil)) (ce_lst ca_nil)) ca_nil))))) (css_one (cs_ret (ce_Ty cb_tuple rfl (hf_tuple h) bt_tuple (ca_cons (ce_var 3) ca_nil)))))))).A
theorem sc_law : FnScope ["script", "bag", "lap", "names", "its", "rows", "lot", "a", "odd", "heard", "many", "seams", "zones", "b", "ones", "others", "cell", "k", "name", "cells"] ["script"] (defScope (top 37)) := ⟨rfl, rfl, rfl, by decide +kernel, rfl, by decide +kernel, by decide +kernel⟩
theorem fs_law (h : HF K mg) {fd : FuncData} (F : FunD K "law" "law" (defArgs (top 37)) (defBody (top 37)) (defScope (top 37)) [] [] (He.fAd K ("law", none)) fd) (lt : Z.LawT K mg base) : FS P w K mg base 9 (He.fAd K ("law", none)) fd ["script"] f_law := by
  obtain ⟨fdh, Fh⟩ := h.d.def_ 26 (d := dd_law_heard) rfl
  have bind_heard : Binds K fdh ["act"] [] := Fh.bindsN fun _ _ _ _ _ _ us hl => match us, hl with | [_], _ => rfl
  exact Z.fs_ofT F sc_law fun cdv A outer s H E ec st => (show CSs _ (defBody (top 37)) m_law from (css_cons (cs_set 1 st.toStd.hN (ce_fn (x := "_law_bag") (fs_law_bag h) st.toStd (by first | decide | omega) (by rfl) (ca_cons (ce_var 0) ca_nil))) (css_cons (cs_for st.hp st.toStd.hc (ci_range1 rfl (hf_range h) (ca_cons ce_int ca_nil)) (cg_name 2 st.toStd.hN) (css_cons (cs_set 3 st.toStd.hN (ce_fn (x := "_law_three") (fs_law_three h) st.toStd (by first | decide | omega) (by rfl) (ca_cons (ce_var 1) ca_nil))) (css_cons (cs_set 4 st.toStd.hN (ce_fn (x := "_law_map") (fs_law_map h) st.toStd (by first | decide | omega) (by rfl) (ca_cons (ce_var 1) (ca_cons (ce_var 3) (ca_cons ce_int ca_nil))))) (css_cons (cs_asg (ce_var 4) (cg_tup st.toStd.hc (cgs_cons (cg_name 10 st.toStd.hN) (cgs_cons (cg_name 11 st.toStd.hN) (cgs_cons (cg_name 12 st.toStd.hN) cgs_nil))))) (css_cons (cs_set 5 st.toStd.hN (ce_lc [("cell", 16)] st.toStd.hc st.toStd.hN (ci_range1 rfl (hf_range h) (ca_cons (ce_var 10) ca_nil)) (blkOk_by rfl) (by decide) (fun _ _ _ _ _ => (cg_name 16 (st.toStd).blk.hN)) (fun _ _ _ _ _ => cts_nil) (fun _ _ _ _ _ => (ce_fn (x := "_law_member") (fs_law_member h) (st.toStd).blk (by first | decide | omega) (by rfl) (ca_cons (ce_var 4) (ca_cons (ce_var 16) ca_nil)))))) (css_cons (cs_if (ct_not (ct_val (ce_fn (x := "_law_alike") (fs_law_alike h) st.toStd (by first | decide | omega) (by rfl) (ca_cons (ce_lst (ca_cons (ce_fn (x := "names_of") (fs_names_of h) st.toStd (by first | decide | omega) (by rfl) (ca_cons (ce_var 4) ca_nil)) (ca_cons (ce_fn (x := "memberships") (fs_memberships h) st.toStd (by first | decide | omega) (by rfl) (ca_cons (ce_var 4) ca_nil)) (ca_cons (ce_lc [("name", 18)] st.toStd.hc st.toStd.hN (ci_any (ce_var 3)) (blkOk_by rfl) (by decide) (fun _ _ _ _ _ => (cg_name 18 (st.toStd).blk.hN)) (fun _ _ _ _ _ => cts_nil) (fun _ _ _ _ _ => (ce_fn (x := "cells_in") (fs_cells_in h) (st.toStd).blk (by first | decide | omega) (by rfl) (ca_cons (ce_var 4) (ca_cons (ce_var 18) ca_nil))))) ca_nil)))) (ca_cons (ce_lst (ca_cons (ce_var 3) (ca_cons (ce_Ty cb_tuple rfl (hf_tuple h) bt_tuple (ca_cons (ce_var 5) ca_nil)) (ca_cons (ce_lc [("name", 18), ("cells", 19)] st.toStd.hc st.toStd.hN (ci_any (ce_var 12)) (blkOk_by rfl) (by decide) (fun _ _ _ _ _ => (cg_tup (st.toStd).blk.hc (cgs_cons (cg_name 18 (st.toStd).blk.hN) (cgs_cons (cg_name 19 (st.toStd).blk.hN) cgs_nil)))) (fun _ _ _ _ _ => cts_nil) (fun _ _ _ _ _ => (ce_var 19))) ca_nil)))) ca_nil))))) (css_one (cs_ret ce_bl)) css_nil) (css_cons (cs_if (ct_not (ct_val (ce_fn (x := "_law_alike") (fs_law_alike h) st.toStd (by first | decide | omega) (by rfl) (ca_cons (ce_lc [("cell", 16)] st.toStd.hc st.toStd.hN (ci_range1 rfl (hf_range h) (ca_cons (ce_var 10) ca_nil)) (blkOk_by rfl) (by decide) (fun _ _ _ _ _ => (cg_name 16 (st.toStd).blk.hN)) (fun _ _ _ _ _ => cts_nil) (fun _ _ _ _ _ => (ce_lst (ca_cons (ce_fn (x := "membership") (fs_membership h) (st.toStd).blk (by first | decide | omega) (by rfl) (ca_cons (ce_var 4) (ca_cons (ce_var 16) ca_nil))) (ca_cons (ce_fn (x := "beside") (fs_beside h) (st.toStd).blk (by first | decide | omega) (by rfl) (ca_cons (ce_var 4) (ca_cons (ce_var 16) ca_nil))) ca_nil))))) (ca_cons (ce_lc [("cell", 16)] st.toStd.hc st.toStd.hN (ci_range1 rfl (hf_range h) (ca_cons (ce_var 10) ca_nil)) (blkOk_by rfl) (by decide) (fun _ _ _ _ _ => (cg_name 16 (st.toStd).blk.hN)) (fun _ _ _ _ _ => cts_nil) (fun _ _ _ _ _ => (ce_lst (ca_cons (ce_ix (st.toStd).blk.hr (ce_var 5) (ce_var 16)) (ca_cons (ce_fn (x := "_law_near") (fs_law_near h) (st.toStd).blk (by first | decide | omega) (by rfl) (ca_cons (ce_var 4) (ca_cons (ce_var 16) ca_nil))) ca_nil))))) ca_nil))))) (css_one (cs_ret ce_bl)) css_nil) (css_cons (cs_for st.hp st.toStd.hc (ci_any (ce_bin od_add (ce_fn (x := "_law_lots") (fs_law_lots h) st.toStd (by first | decide | omega) (by rfl) (ca_cons (ce_Ty cb_list rfl (hf_list h) bt_list (ca_cons (ce_var 3) ca_nil)) ca_nil)) (ce_lst (ca_cons (ce_tup (ca_cons (ce_str) ca_nil)) (ca_cons ce_non (ca_cons (ce_lst (ca_cons (ce_str) ca_nil)) ca_nil)))))) (cg_name 6 st.toStd.hN) (css_one (cs_if (ct_not (ct_val (ce_fn (x := "_law_alike") (fs_law_alike h) st.toStd (by first | decide | omega) (by rfl) (ca_cons (ce_fn (x := "cells_with") (fs_cells_with h) st.toStd (by first | decide | omega) (by rfl) (ca_cons (ce_var 4) (ca_cons (ce_var 6) ca_nil))) (ca_cons (ce_Ty cb_tuple rfl (hf_tuple h) bt_tuple (ca_cons (ce_lc [("cell", 16)] st.toStd.hc st.toStd.hN (ci_range1 rfl (hf_range h) (ca_cons (ce_var 10) ca_nil)) (blkOk_by rfl) (by decide) (fun _ _ _ _ _ => (cg_name 16 (st.toStd).blk.hN)) (fun _ _ _ _ _ => (cts_one (ct_cmp (od_eq (st.toStd).blk.hr) (ce_ix (st.toStd).blk.hr (ce_var 5) (ce_var 16)) (ce_var 6)))) (fun _ _ _ _ _ => (ce_var 16))) ca_nil)) ca_nil))))) (css_one (cs_ret ce_bl)) css_nil))) (css_cons (cs_for st.hp st.toStd.hc (ci_range1 rfl (hf_range h) (ca_cons (ce_var 10) ca_nil)) (cg_name 7 st.toStd.hN) (css_one (cs_for st.hp st.toStd.hc (ci_range1 rfl (hf_range h) (ca_cons (ce_var 10) ca_nil)) (cg_name 13 st.toStd.hN) (css_one (cs_if (ct_not (ct_val (ce_fn (x := "_law_alike") (fs_law_alike h) st.toStd (by first | decide | omega) (by rfl) (ca_cons (ce_fn (x := "has_seam") (fs_has_seam h) st.toStd (by first | decide | omega) (by rfl) (ca_cons (ce_var 4) (ca_cons (ce_var 7) (ca_cons (ce_var 13) ca_nil)))) (ca_cons (ce_cmp (od_in st.toStd.hr) (ce_tup (ca_cons (ce_B (cb_min st.toStd.hc) rfl (hf_min h) bt_min (ca_cons (ce_var 7) (ca_cons (ce_var 13) ca_nil))) (ca_cons (ce_B (cb_max st.toStd.hc) rfl (hf_max h) bt_max (ca_cons (ce_var 7) (ca_cons (ce_var 13) ca_nil))) ca_nil))) (ce_var 11)) ca_nil))))) (css_one (cs_ret ce_bl)) css_nil))))) (css_cons (cs_asg (ce_lc [("k", 17)] st.toStd.hc st.toStd.hN (ci_range1 rfl (hf_range h) (ca_cons ce_int ca_nil)) (blkOk_by rfl) (by decide) (fun _ _ _ _ _ => (cg_name 17 (st.toStd).blk.hN)) (fun _ _ _ _ _ => cts_nil) (fun _ _ _ _ _ => (ce_Ty cb_tuple rfl (hf_tuple h) bt_tuple (ca_cons (ce_lc [("cell", 16)] (st.toStd).blk.hc (st.toStd).blk.hN (ci_range1 rfl (hf_range h) (ca_cons (ce_var 10) ca_nil)) (blkOk_by rfl) (by decide) (fun _ _ _ _ _ => (cg_name 16 ((st.toStd).blk).blk.hN)) (fun _ _ _ _ _ => (cts_one (ct_cmp (od_eq ((st.toStd).blk).blk.hr) (ce_fn (x := "_law_take") (fs_law_take h) ((st.toStd).blk).blk (by first | decide | omega) (by rfl) (ca_cons (ce_var 1) (ca_cons ce_int ca_nil))) ce_int))) (fun _ _ _ _ _ => (ce_var 16))) ca_nil)))) (cg_tupL st.toStd.hc (cgs_cons (cg_name 14 st.toStd.hN) (cgs_cons (cg_name 15 st.toStd.hN) cgs_nil)))) (css_cons (cs_if (ct_not (ct_val (ce_fn (x := "_law_alike") (fs_law_alike h) st.toStd (by first | decide | omega) (by rfl) (ca_cons (ce_lst (ca_cons (ce_fn (x := "seams_between") (fs_seams_between h) st.toStd (by first | decide | omega) (by rfl) (ca_cons (ce_var 4) (ca_cons (ce_var 14) (ca_cons (ce_var 15) ca_nil)))) (ca_cons (ce_fn (x := "seams_between") (fs_seams_between h) st.toStd (by first | decide | omega) (by rfl) (ca_cons (ce_var 4) (ca_cons (ce_rev (ce_var 15)) (ca_cons (ce_var 14) ca_nil)))) ca_nil))) (ca_cons (ce_repL (ca_cons (ce_fn (x := "_law_seams_of") (fs_law_seams_of h) st.toStd (by first | decide | omega) (by rfl) (ca_cons (ce_var 4) (ca_cons (ce_var 14) (ca_cons (ce_var 15) ca_nil)))) ca_nil) ce_int) ca_nil))))) (css_one (cs_ret ce_bl)) css_nil) (css_cons (cs_set 8 st.toStd.hN (ce_fn (x := "_law_some") (fs_law_some h) st.toStd (by first | decide | omega) (by rfl) (ca_cons (ce_var 1) (ca_cons (ce_lst (ca_cons (ce_neg ce_int) (ca_cons (ce_var 10) (ca_cons ce_bl (ca_cons ce_non (ca_cons (ce_str) ca_nil)))))) ca_nil)))) (css_cons (cs_set 9 st.toStd.hN (ce_lstR (ca_cons (ce_heard (k := 4) (st.toStd.less (by decide)) Fh (hg_law_heard h) rfl sc_law_heard rfl (by rfl) bind_heard rfl (xm_0 h) rfl rfl ⟨_, ec, lt.tb⟩ (LamX.lamS_by (sc := defScope (top 37)) (by decide +kernel)) rfl (fun _ _ _ _ _ => rfl) fun A outer s H E f c1 st2 => (ce_fn (x := "membership") (fs_membership h) st2 (by first | decide | omega) (by rfl) (ca_cons (ce_var 4) (ca_cons (ce_var 8) ca_nil)))) ca_nil))) (css_cons (cs_expr (ce_m PySem.F.plainAttrs_list PySem.F.slot_list_append PySem.F.type_list_append tyL_of mb_append (ce_var 9) (ca_cons (ce_heard (k := 5) (st.toStd.less (by decide)) Fh (hg_law_heard h) rfl sc_law_heard rfl (by rfl) bind_heard rfl (xm_0 h) rfl rfl ⟨_, ec, lt.tb⟩ (LamX.lamS_by (sc := defScope (top 37)) (by decide +kernel)) rfl (fun _ _ _ _ _ => rfl) fun A outer s H E f c1 st2 => (ce_fn (x := "has_seam") (fs_has_seam h) st2 (by first | decide | omega) (by rfl) (ca_cons (ce_var 4) (ca_cons ce_int (ca_cons (ce_var 8) ca_nil))))) ca_nil))) (css_cons (cs_expr (ce_m PySem.F.plainAttrs_list PySem.F.slot_list_append PySem.F.type_list_append tyL_of mb_append (ce_var 9) (ca_cons (ce_heard (k := 5) (st.toStd.less (by decide)) Fh (hg_law_heard h) rfl sc_law_heard rfl (by rfl) bind_heard rfl (xm_0 h) rfl rfl ⟨_, ec, lt.tb⟩ (LamX.lamS_by (sc := defScope (top 37)) (by decide +kernel)) rfl (fun _ _ _ _ _ => rfl) fun A outer s H E f c1 st2 => (ce_fn (x := "seams_between") (fs_seams_between h) st2 (by first | decide | omega) (by rfl) (ca_cons (ce_var 4) (ca_cons (ce_tup (ca_cons (ce_var 8) ca_nil)) (ca_cons (ce_tup ca_nil) ca_nil))))) ca_nil))) (css_cons (cs_expr (ce_m PySem.F.plainAttrs_list PySem.F.slot_list_append PySem.F.type_list_append tyL_of mb_append (ce_var 9) (ca_cons (ce_heard (k := 5) (st.toStd.less (by decide)) Fh (hg_law_heard h) rfl sc_law_heard rfl (by rfl) bind_heard rfl (xm_0 h) rfl rfl ⟨_, ec, lt.tb⟩ (LamX.lamS_by (sc := defScope (top 37)) (by decide +kernel)) rfl (fun _ _ _ _ _ => rfl) fun A outer s H E f c1 st2 => (ce_fn (x := "seams_between") (fs_seams_between h) st2 (by first | decide | omega) (by rfl) (ca_cons (ce_var 4) (ca_cons (ce_tup ca_nil) (ca_cons (ce_lst (ca_cons ce_int ca_nil)) ca_nil))))) ca_nil))) (css_cons (cs_expr (ce_m PySem.F.plainAttrs_list PySem.F.slot_list_append PySem.F.type_list_append tyL_of mb_append (ce_var 9) (ca_cons (ce_heard (k := 2) (st.toStd.less (by decide)) Fh (hg_law_heard h) rfl sc_law_heard rfl (by rfl) bind_heard rfl (xm_0 h) rfl rfl ⟨_, ec, lt.tb⟩ (LamX.lamS_by (sc := defScope (top 37)) (by decide +kernel)) rfl (fun _ _ _ _ _ => rfl) fun A outer s H E f c1 st2 => (ce_fn (x := "cells_in") (fs_cells_in h) st2 (by first | decide | omega) (by rfl) (ca_cons (ce_var 4) (ca_cons (ce_fn (x := "_law_some") (fs_law_some h) st2 (by first | decide | omega) (by rfl) (ca_cons (ce_var 1) (ca_cons (ce_lst (ca_cons (ce_str) (ca_cons (ce_str) (ca_cons ce_non (ca_cons ce_int ca_nil))))) ca_nil))) ca_nil)))) ca_nil))) (css_one (cs_if (ct_cmp (od_ne st.toStd.hr) (ce_var 9) (ce_repL (ca_cons (ce_tup (ca_cons (ce_str) ca_nil)) ca_nil) ce_int)) (css_one (cs_ret ce_bl)) css_nil))))))))))))))))))) (css_one (cs_ret ce_bl)))))
end
end Zk16

namespace Zk16
open PySem PySem.Spec PyProof PyProof.Rows L2 Z
abbrev R0 : PySem.W.OpenRow := PySem.W.OpenLaw.row PySem.Challenge.rw_zoneways_k16_words_of_maps
abbrev hk : PySem.W.Hook := He.hookX 4 fa fn [] [("law", none)] ex
def ob (s : PySem.W.SharedT) : He.AlX := He.obsX 4 fa fn [] [("law", none)] ex (HandSHeadRun.getT s)
theorem ob_eq (s : PySem.W.SharedT) : ob s = hk.obs s.abs := He.obsX_eq (HandSHeadRun.getT_eq s)
def loose : List PySem.Str := (["_wall", "__name__", "ZoneError", "Nothing", "LETTERS", "DIGITS", "MOST_LETTERS", "RESERVED", "is_integer", "is_count", "is_name", "is_counts", "names_of", "cells_in", "check_cell", "check_cells", "membership", "memberships", "cells_with", "beside", "has_seam", "seams_between", "_law_bag", "_law_take", "_law_some", "_law_alike", "_law_lots", "_law_couples", "_law_map", "_law_member"] : List PySem.Str) ++ (["_law_three", "_law_near", "_law_seams_of", "_law_heard"] : List PySem.Str)
theorem run (w : World) : HandSHeadRun.RunEq R0 (PySem.W.view R0.prog [37]) hk ob 4000 loose w := by
  intro os
  kernel_rfl
end Zk16

open PySem PySem.W PySem.Calls PyProof.Rows Z in
theorem PySem.Challenge.cw_zoneways_k16_words_of_maps_holds : PySem.Challenge.rw_zoneways_k16_words_of_maps.Holds := by
  w_on; o_law
  refine HandSHeadRun.head_any (r := OpenLaw.row PySem.Challenge.rw_zoneways_k16_words_of_maps) (q := view (OpenLaw.row PySem.Challenge.rw_zoneways_k16_words_of_maps).prog [37]) (H := Zk16.hk) (ob := Zk16.ob) (M := 4000) (loose := Zk16.loose) (d := HandSHeadRun.topDef (OpenLaw.row PySem.Challenge.rw_zoneways_k16_words_of_maps).prog 37) (kwd := []) Zk16.ob_eq (by kernel_rfl) (fun s => by kernel_rfl) Zk16.run (by kernel_rfl) (by kernel_rfl) (by kernel_rfl) (by rfl) (by first | assumption | decide +kernel) (by decide +kernel) ⟨rfl, rfl, rfl, rfl, rfl, by decide +kernel⟩ ?hw ?hc
  case hw => w_witness2
  case hc =>
    refine Z.walkGT (l := PySem.Challenge.rw_zoneways_k16_words_of_maps) (n := 63) (k := 9) (x := "script") (CX := fun w => L2.CX (PySem.Challenge.rw_zoneways_k16_words_of_maps).prog w) rfl (by decide) (by kernel_rfl) ⟨rfl, by decide, by decide⟩ ?F ?G
    case G =>
      intro w H s e s2 z
      obtain ⟨_, _, _, _, _, _, _, _, _, _, _, _, y⟩ := z
      exact y
    case F =>
      intro w mg fa h Y G hmg0
      obtain ⟨K, KX, c⟩ := Y
      have sd : He.SaysD Zk16.fa Zk16.fn K := congrArg (fun z : He.AlT => z.1) c.t
      have hf : Zk16.HF K mg := ⟨sd, ⟨h, KX, G⟩, c.more⟩
      have hmg : mg ("law" : PySem.Str) = some (.ref fa) := by
        have e : (HandSHeadRun.topDef (OpenLaw.row PySem.Challenge.rw_zoneways_k16_words_of_maps).prog 37).name = ("law" : PySem.Str) := by kernel_rfl
        rw [← e]
        exact hmg0
      obtain ⟨fd, F0⟩ := hf.d.def_ 25 (d := Zk16.dd_law) rfl
      have hp : (("law", none) : He.Defn) ∈ [(("law", none) : He.Defn)] := List.mem_cons_self
      exact ⟨K, Z.law_endT KX hmg (Zk16.hg_law hf) ⟨c.hd _ hp, c.out _ hp, c.empty _ hp⟩ F0 (F0.bindsN fun _ _ _ _ _ _ us hl => match us, hl with | [_], _ => rfl) (fun base lt => Zk16.fs_law (P := (PySem.Challenge.rw_zoneways_k16_words_of_maps).prog) (w := w) (base := base) hf F0 lt) Zk16.law_true⟩
