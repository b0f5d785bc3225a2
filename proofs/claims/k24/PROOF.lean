import PyProof.Rows.All
import Wide.All
import OpenK.AllK
import Wide.FinOn
import HandS.ForMost
import HandS.ForExc
import HandS.Deep
import HandS.TupLe
import HandS.SortOrd
import HandS.Flow
import HandS.Style
import HandS.Conv
import HandS.Lambda
import HandS.HeadHook3
import HandS.HeadEnd
import HandS.HeadWalk
import HandS.Head4
import HandS.ExcInit
import HandS.ExcSuper
import HandS.IsInst
import HandS.TryMany
import HandS.RaiseMore
import HandS.Small
import HandS.Wide
import HandS.WideMore
import HandS.DictComp
import HandS.Zip
import HandS.Walk
import HandS.TupAny
import KE.KDictKeyed
import KE.GoesDict
import KE.KDictWalk
import KE.KDictLaw
import KE.KRevSl
import KE.GoesEnum
import PyProof.StrLawsRepr
import PySem.Challenge.RW_zoneways_k24_papers_of_wishes_kept
set_option Elab.async false
set_option linter.all false
set_option maxHeartbeats 4000000
set_option maxRecDepth 100000
/-! Z1: values without a heap, the store, the relation to the abstract heap. -/
namespace Z
open PySem PySem.Spec PyProof.Rows L2

/-- a value: a tuple or a list that stands still is told by what it holds; what may change stands in the store -/
inductive D where
  | non | bl (b : Bool) | int (i : Int) | str (s : List Nat)
  | tup (ds : List D) | lst (ds : List D) | dct (ks zs : List D) | dcn (ks zs : List D)
  | ref (n : Nat) | arg (ns : List Int)

/-- a law's bag -/
structure Bag where
  a : Int
  b : Int
  c : Int
  l : List Int
/-- what stands in the store -/
inductive O where
  | lst (ds : List D) | dct (ks zs : List D) | dcn (ks zs : List D) | ins (c : Str) (fs : List (Str × D)) | bag (b : Bag)

/-- the store: the newest first -/
structure Sto where
  len : Nat
  objs : List O
def Sto.get (S : Sto) (n : Nat) : Option O := if n < S.len then S.objs[S.len - 1 - n]? else none
def Sto.push (S : Sto) (o : O) : Sto := ⟨S.len + 1, o :: S.objs⟩
def Sto.set (S : Sto) (n : Nat) (o : O) : Sto := if n < S.len then ⟨S.len, S.objs.set (S.len - 1 - n) o⟩ else S
def Sto.Wf (S : Sto) : Prop := S.objs.length = S.len
def Sto.nil : Sto := ⟨0, []⟩
theorem Sto.get_push_self {S : Sto} {o : O} : (S.push o).get S.len = some o := by
  unfold Sto.get Sto.push
  simp
theorem Sto.get_push_lt {S : Sto} {o : O} {n : Nat} (h : n < S.len) : (S.push o).get n = S.get n := by
  unfold Sto.get Sto.push
  have h1 : n < S.len + 1 := by omega
  rw [if_pos h1, if_pos h]
  have e : S.len + 1 - 1 - n = (S.len - 1 - n) + 1 := by omega
  show (o :: S.objs)[S.len + 1 - 1 - n]? = _
  rw [e, List.getElem?_cons_succ]
theorem Sto.get_set_self {S : Sto} {o : O} {n : Nat} (w : S.Wf) (h : n < S.len) : (S.set n o).get n = some o := by
  unfold Sto.set
  rw [if_pos h]
  unfold Sto.get
  show (if n < S.len then _ else _) = _
  rw [if_pos h]
  have w' : S.objs.length = S.len := w
  have : S.len - 1 - n < S.objs.length := by omega
  simp [this]
theorem Sto.get_set_ne {S : Sto} {o : O} {n m : Nat} (h : m ≠ n) : (S.set n o).get m = S.get m := by
  unfold Sto.set
  by_cases hn : n < S.len
  · rw [if_pos hn]
    unfold Sto.get
    show (if m < S.len then _ else _) = _
    by_cases hm : m < S.len
    · rw [if_pos hm, if_pos hm]
      show (S.objs.set (S.len - 1 - n) o)[S.len - 1 - m]? = _
      rw [List.getElem?_set_ne (by omega)]
    · rw [if_neg hm, if_neg hm]
  · rw [if_neg hn]
theorem Sto.set_len {S : Sto} {o : O} {n : Nat} : (S.set n o).len = S.len := by
  unfold Sto.set; split <;> rfl
theorem Sto.Wf.push {S : Sto} {o : O} (w : S.Wf) : (S.push o).Wf := by
  unfold Sto.Wf Sto.push at *
  simp [w]
theorem Sto.Wf.set {S : Sto} {o : O} {n : Nat} (w : S.Wf) : (S.set n o).Wf := by
  unfold Sto.set
  split
  · unfold Sto.Wf at *
    simp [w]
  · exact w
theorem Sto.Wf.get {S : Sto} (w : S.Wf) {n : Nat} (h : n < S.len) : ∃ o, S.get n = some o := by
  unfold Sto.Wf at w
  unfold Sto.get
  rw [if_pos h]
  have : S.len - 1 - n < S.objs.length := by omega
  exact ⟨_, List.getElem?_eq_getElem this⟩
theorem Sto.get_lt {S : Sto} {n : Nat} {o : O} (h : S.get n = some o) : n < S.len := by
  unfold Sto.get at h
  by_cases hn : n < S.len
  · exact hn
  · rw [if_neg hn] at h; cases h

/-- what is fixed through a law -/
structure Wd where
  P : Program
  w : World
  K : PySem.W.Frag
  mg : Str → Option Value
abbrev wd (X : Cx) : Wd := ⟨X.prog, X.w, X.K, X.mg⟩
/-- where the store's objects stand -/
structure Gh where
  n : Nat
  ι : Nat → Addr
  hid : Addr → Prop
def NS (G : Gh) (a : Addr) : Prop := (∀ i, i < G.n → G.ι i ≠ a) ∧ ¬ G.hid a
def KTup (K : PySem.W.Frag) (a : Addr) (xs : List V) : Prop := ∃ (o : Obj) (its : Array Value) (n : Nat), K.lookup a = some o ∧ o.cls = .type "tuple" ∧ o.data = .seq its n ∧ its.size ≤ sizeLine ∧ Vals xs its.toList
def KLst (K : PySem.W.Frag) (a : Addr) (xs : List V) : Prop := ∃ (o : Obj) (its : Array Value) (n : Nat), K.lookup a = some o ∧ o.cls = .type "list" ∧ o.dict = none ∧ o.data = .seq its n ∧ its.size ≤ sizeLine ∧ Vals xs its.toList
def TupAt (U : Wd) (G : Gh) (H : Hp) (a : Addr) (vs : List V) : Prop := (Rd H a (.tup vs) ∧ NS G a) ∨ KTup U.K a vs
def LstAt (U : Wd) (G : Gh) (H : Hp) (a : Addr) (vs : List V) : Prop := Rd H a (.lst vs) ∧ NS G a
/-- the script -/
def ArgAt (U : Wd) (G : Gh) (H : Hp) (a : Addr) (vs : List V) : Prop := (Rd H a (.lst vs) ∧ NS G a) ∨ KLst U.K a vs
theorem ArgAt.sq {U : Wd} {G : Gh} {H : Hp} {a : Addr} {vs : List V} (h : ArgAt U G H a vs) : SqL U.K H a vs := by
  rcases h with ⟨h, _⟩ | h
  · exact .inl h
  · exact .inr h
theorem TupAt.sq {U : Wd} {G : Gh} {H : Hp} {a : Addr} {vs : List V} (h : TupAt U G H a vs) : SqT U.K H a vs := by
  rcases h with ⟨h, _⟩ | h
  · exact .inl h
  · exact .inr h
theorem LstAt.sq {U : Wd} {G : Gh} {H : Hp} {a : Addr} {vs : List V} (h : LstAt U G H a vs) : SqL U.K H a vs := .inl h.1
/-- keys that are whole numbers or texts -/
def keyOf : D → Option Key
  | .int i => some (.inl i)
  | .str s => some (.inr ⟨s.toArray⟩)
  | _ => none
/-- keys that are nested tuples -/
def nk : D → Option NestedKey
  | .non => some .none
  | .bl b => some (.num (if b = true then 1 else 0))
  | .int i => some (.num i)
  | .str s => some (.text ⟨s.toArray⟩)
  | .tup ds => (nks ds).map .tup
  | _ => none
where nks : List D → Option (List NestedKey)
  | [] => some []
  | d :: ds => match nk d, nks ds with
    | some k, some ks => some (k :: ks)
    | _, _ => none
abbrev Ent := NestedKey × Addr × V
/-- a dict whose keys are nested tuples, as an object -/
def nesHO (U : Wd) (a : Addr) (xs : List Ent) : HO := .ext fun h => (a == sysModules) = false ∧ xs.length ≤ sizeLine ∧ ∃ o des ep, h.get? a = some o ∧ o.ExactDict ∧ o.data = .dict des ep ∧
  Paired (fun (x : Ent) (e : DictEntry) => e.hash = x.1.hash U.w ∧ e.key = .ref x.2.1 ∧ RelV x.2.2 e.val) xs des.toList ∧ (xs.map (·.1)).Nodup
/-- a written dict of text keys -/
def KDic (U : Wd) (a : Addr) (kvs : List (Str × V)) : Prop := ∃ es n, KDict U.K U.w a es n ∧ Paired (fun (p : Str × V) (e : DictEntry) => (∃ t, e.key = .str p.1 t) ∧ RelV p.2 e.val) kvs es.toList

/-- a dict whose keys are whole numbers and texts -/
def DicAt (_ : Wd) (G : Gh) (H : Hp) (a : Addr) (kvs : List (Key × V)) : Prop := H a = some (.dK kvs) ∧ NS G a
def DcnAt (U : Wd) (G : Gh) (H : Hp) (a : Addr) (xs : List Ent) : Prop := H a = some (nesHO U a xs) ∧ NS G a
mutual
/-- the value v stands for d -/
def DV (U : Wd) (G : Gh) (H : Hp) : D → V → Prop
  | .non, v => v = .non
  | .bl b, v => v = .bl b
  | .int i, v => v = .int i
  | .str s, v => v = .str ⟨s.toArray⟩
  | .tup ds, v => ∃ a vs, v = .ref a ∧ TupAt U G H a vs ∧ DVs U G H ds vs
  | .lst ds, v => ∃ a vs, v = .ref a ∧ LstAt U G H a vs ∧ DVs U G H ds vs
  | .dct ks zs, v => ∃ a kvs, v = .ref a ∧ DicAt U G H a kvs ∧ ks.map keyOf = kvs.map (fun p => some p.1) ∧ DVs U G H zs (kvs.map (·.2))
  | .dcn ks zs, v => ∃ a xs, v = .ref a ∧ DcnAt U G H a xs ∧ ks.map nk = xs.map (fun x => some x.1) ∧ DVs U G H ks (xs.map (fun x => V.ref x.2.1)) ∧ DVs U G H zs (xs.map (·.2.2))
  | .ref n, v => n < G.n ∧ v = .ref (G.ι n)
  | .arg ns, v => ∃ a, v = .ref a ∧ ArgAt U G H a (ns.map .int)
def DVs (U : Wd) (G : Gh) (H : Hp) : List D → List V → Prop
  | [], vs => vs = []
  | d :: ds, vs => ∃ v r, vs = v :: r ∧ DV U G H d v ∧ DVs U G H ds r
end

/-- what stands in the store at a -/
def OV (U : Wd) (G : Gh) (H : Hp) : O → Addr → Prop
  | .lst ds, a => ∃ vs, H a = some (.lst vs) ∧ DVs U G H ds vs
  | .dct ks zs, a => ∃ kvs : List (Key × V), H a = some (.dK kvs) ∧ ks.map keyOf = kvs.map (fun p => some p.1) ∧ DVs U G H zs (kvs.map (·.2))
  | .dcn ks zs, a => ∃ xs : List Ent, H a = some (nesHO U a xs) ∧ ks.map nk = xs.map (fun x => some x.1) ∧ DVs U G H ks (xs.map (fun x => V.ref x.2.1)) ∧ DVs U G H zs (xs.map (·.2.2))
  | .bag b, a => ∃ c, H a = some (.lst [.int b.a, .int b.b, .int b.c, .ref c]) ∧ LstAt U G H c (b.l.map .int)
  | .ins c fs, a => ∃ C dx fvs, U.mg c = some (.ref C) ∧ H a = some (.ins C dx fvs) ∧ H dx = some (.own a) ∧ NS G dx ∧ fs.map (·.1) = fvs.map (·.1) ∧ DVs U G H (fs.map (·.2)) (fvs.map (·.2))

/-- from one state to a later one: all that is tracked and not of the store stays -/
structure Step (G : Gh) (H : Hp) (G' : Gh) (H' : Hp) : Prop where
  keep : ∀ a o, H a = some o → (NS G a ∨ G.hid a) → H' a = some o
  hid : ∀ a, G.hid a → G'.hid a
  hnew : ∀ a, G'.hid a → G.hid a ∨ H a = none
  le : G.n ≤ G'.n
  ι : ∀ i, i < G.n → G'.ι i = G.ι i
  new : ∀ i, G.n ≤ i → i < G'.n → H (G'.ι i) = none
  there : ∀ i, i < G.n → (∃ o, H (G.ι i) = some o) → ∃ o, H' (G.ι i) = some o
theorem Step.refl {G : Gh} {H : Hp} : Step G H G H := ⟨fun _ _ h _ => h, fun _ h => h, fun _ h => .inl h, Nat.le_refl _, fun _ _ => rfl, fun i h1 h2 => absurd h2 (Nat.not_lt.mpr h1), fun _ _ h => h⟩
theorem Step.ns {G G' : Gh} {H H' : Hp} (s : Step G H G' H') {a : Addr} {o : HO} (h : H a = some o) (n : NS G a) : NS G' a := by
  refine ⟨fun i hi e => ?_, fun z => (s.hnew a z).elim n.2 fun w => by rw [w] at h; cases h⟩
  by_cases hl : i < G.n
  · rw [s.ι i hl] at e; exact n.1 i hl e
  · have := s.new i (by omega) hi
    rw [e, h] at this; cases this
theorem Step.trans {G G1 G2 : Gh} {H H1 H2 : Hp} (a : Step G H G1 H1) (b : Step G1 H1 G2 H2) : Step G H G2 H2 where
  keep := fun p o h n => b.keep p o (a.keep p o h n) (n.elim (fun n => .inl (a.ns h n)) fun z => .inr (a.hid p z))
  hid := fun p z => b.hid p (a.hid p z)
  hnew := fun p z => by
    rcases b.hnew p z with z | z
    · exact a.hnew p z
    · cases e : H p with
      | none => exact .inr rfl
      | some o =>
        exfalso
        by_cases hn : NS G p ∨ G.hid p
        · rw [a.keep _ o e hn] at z; cases z
        · have : ∃ j, j < G.n ∧ G.ι j = p := by
            apply Classical.byContradiction
            intro y
            exact hn (Classical.byCases (fun w => .inr w) fun w => .inl ⟨fun j hj ej => y ⟨j, hj, ej⟩, w⟩)
          obtain ⟨j, hj, ej⟩ := this
          obtain ⟨o', ho'⟩ := a.there j hj ⟨o, by rw [ej]; exact e⟩
          rw [ej, z] at ho'; cases ho'
  le := Nat.le_trans a.le b.le
  ι := fun i hi => (b.ι i (Nat.lt_of_lt_of_le hi a.le)).trans (a.ι i hi)
  new := fun i h1 h2 => by
    by_cases hl : i < G1.n
    · rw [b.ι i hl]; exact a.new i h1 hl
    · have q := b.new i (by omega) h2
      cases e : H (G2.ι i) with
      | none => rfl
      | some o =>
        exfalso
        by_cases hn : NS G (G2.ι i) ∨ G.hid (G2.ι i)
        · rw [a.keep _ o e hn] at q; cases q
        · have : ∃ j, j < G.n ∧ G.ι j = G2.ι i := by
            apply Classical.byContradiction
            intro z
            exact hn (Classical.byCases (fun w => .inr w) fun w => .inl ⟨fun j hj ej => z ⟨j, hj, ej⟩, w⟩)
          obtain ⟨j, hj, ej⟩ := this
          obtain ⟨o', ho'⟩ := a.there j hj ⟨o, by rw [ej]; exact e⟩
          rw [ej, q] at ho'; cases ho'
  there := fun i hi h => by
    have h1 := a.there i hi h
    have := b.there i (Nat.lt_of_lt_of_le hi a.le) (by rw [a.ι i hi]; exact h1)
    rw [a.ι i hi] at this
    exact this

/-- what a value's reading leans on -/
structure Keep (G : Gh) (H : Hp) (G' : Gh) (H' : Hp) : Prop where
  keep : ∀ a o, H a = some o → NS G a → H' a = some o ∧ NS G' a
  le : G.n ≤ G'.n
  ι : ∀ i, i < G.n → G'.ι i = G.ι i
theorem Step.kp {G G' : Gh} {H H' : Hp} (s : Step G H G' H') : Keep G H G' H' := ⟨fun a o h n => ⟨s.keep a o h (.inl n), s.ns h n⟩, s.le, s.ι⟩
theorem TupAt.kp {U : Wd} {G G' : Gh} {H H' : Hp} {a : Addr} {vs : List V} (s : Keep G H G' H') (h : TupAt U G H a vs) : TupAt U G' H' a vs := by
  rcases h with ⟨h | ⟨o, h⟩, n⟩ | h
  · exact .inl ⟨.inl (s.keep _ _ h n).1, (s.keep _ _ h n).2⟩
  · exact .inl ⟨.inr ⟨o, (s.keep _ _ h n).1⟩, (s.keep _ _ h n).2⟩
  · exact .inr h
theorem ArgAt.kp {U : Wd} {G G' : Gh} {H H' : Hp} {a : Addr} {vs : List V} (s : Keep G H G' H') (h : ArgAt U G H a vs) : ArgAt U G' H' a vs := by
  rcases h with ⟨h | ⟨o, h⟩, n⟩ | h
  · exact .inl ⟨.inl (s.keep _ _ h n).1, (s.keep _ _ h n).2⟩
  · exact .inl ⟨.inr ⟨o, (s.keep _ _ h n).1⟩, (s.keep _ _ h n).2⟩
  · exact .inr h
theorem LstAt.kp {U : Wd} {G G' : Gh} {H H' : Hp} {a : Addr} {vs : List V} (s : Keep G H G' H') (h : LstAt U G H a vs) : LstAt U G' H' a vs := by
  rcases h with ⟨h | ⟨o, h⟩, n⟩
  · exact ⟨.inl (s.keep _ _ h n).1, (s.keep _ _ h n).2⟩
  · exact ⟨.inr ⟨o, (s.keep _ _ h n).1⟩, (s.keep _ _ h n).2⟩
section
variable {U : Wd} {G G' : Gh} {H H' : Hp}
mutual
theorem DV.kp (s : Keep G H G' H') : ∀ {d : D} {v : V}, DV U G H d v → DV U G' H' d v
  | .non, _, h => h
  | .bl _, _, h => h
  | .int _, _, h => h
  | .str _, _, h => h
  | .tup ds, _, ⟨a, vs, e, t, h⟩ => ⟨a, vs, e, t.kp s, DVs.kp s h⟩
  | .lst ds, _, ⟨a, vs, e, t, h⟩ => ⟨a, vs, e, t.kp s, DVs.kp s h⟩
  | .dct ks zs, _, ⟨a, kvs, e, t, h1, h2⟩ => ⟨a, kvs, e, s.keep _ _ t.1 t.2, h1, DVs.kp s h2⟩
  | .dcn ks zs, _, ⟨a, xs, e, t, h1, h3, h2⟩ => ⟨a, xs, e, s.keep _ _ t.1 t.2, h1, DVs.kp s h3, DVs.kp s h2⟩
  | .ref n, _, ⟨h, e⟩ => ⟨Nat.lt_of_lt_of_le h s.le, by rw [e, s.ι n h]⟩
  | .arg ns, _, ⟨a, e, t⟩ => ⟨a, e, t.kp s⟩
theorem DVs.kp (s : Keep G H G' H') : ∀ {ds : List D} {vs : List V}, DVs U G H ds vs → DVs U G' H' ds vs
  | [], _, h => h
  | d :: ds, _, ⟨v, r, e, h1, h2⟩ => ⟨v, r, e, DV.kp s h1, DVs.kp s h2⟩
end
theorem DV.mono (s : Step G H G' H') {d : D} {v : V} (h : DV U G H d v) : DV U G' H' d v := DV.kp s.kp h
theorem DVs.mono (s : Step G H G' H') {d : List D} {v : List V} (h : DVs U G H d v) : DVs U G' H' d v := DVs.kp s.kp h
theorem TupAt.mono {a : Addr} {vs : List V} (s : Step G H G' H') (h : TupAt U G H a vs) : TupAt U G' H' a vs := h.kp s.kp
theorem LstAt.mono {a : Addr} {vs : List V} (s : Step G H G' H') (h : LstAt U G H a vs) : LstAt U G' H' a vs := h.kp s.kp
end

/-- what may change -/
def chg : HO → Bool
  | .lst _ | .dK _ | .ext _ | .ins _ _ _ => true
  | _ => false
/-- the store as it lies -/
structure RelS (U : Wd) (G : Gh) (S : Sto) (H : Hp) : Prop where
  wf : S.Wf
  n : G.n = S.len
  at_ : ∀ i o, S.get i = some o → OV U G H o (G.ι i)
  inj : ∀ i j, i < G.n → j < G.n → G.ι i = G.ι j → i = j
  hid : ∀ a, G.hid a → ∃ u, H a = some u ∧ chg u = true
  dis : ∀ i, i < G.n → ¬ G.hid (G.ι i)
/-- the slots -/
def RelE (U : Wd) (G : Gh) (ρ : List (Option D)) (σ : L2.St) (H : Hp) : Prop := ρ.length = σ.length ∧ ∀ (i : Nat) (d : D), ρ[i]? = some (some d) → ∃ v, σ[i]? = some (some v) ∧ DV U G H d v
theorem RelE.kp {U : Wd} {G G' : Gh} {ρ : List (Option D)} {σ : L2.St} {H H' : Hp} (r : RelE U G ρ σ H) (s : Keep G H G' H') : RelE U G' ρ σ H' :=
  ⟨r.1, fun i d h => let ⟨v, e, q⟩ := r.2 i d h; ⟨v, e, q.kp s⟩⟩
theorem RelE.mono {U : Wd} {G G' : Gh} {ρ : List (Option D)} {σ : L2.St} {H H' : Hp} (r : RelE U G ρ σ H) (s : Step G H G' H') : RelE U G' ρ σ H' :=
  ⟨r.1, fun i d h => let ⟨v, e, q⟩ := r.2 i d h; ⟨v, e, q.mono s⟩⟩
theorem OV.some {U : Wd} {G : Gh} {H : Hp} {o : O} {a : Addr} (h : OV U G H o a) : ∃ u, H a = some u ∧ chg u = true := by
  cases o with
  | lst ds => obtain ⟨vs, e, _⟩ := h; exact ⟨_, e, rfl⟩
  | dct ks zs => obtain ⟨kvs, e, _⟩ := h; exact ⟨_, e, rfl⟩
  | dcn ks zs => obtain ⟨xs, e, _⟩ := h; exact ⟨_, e, rfl⟩
  | bag b => obtain ⟨c, e, _⟩ := h; exact ⟨_, e, rfl⟩
  | ins c fs => obtain ⟨C, dx, fvs, _, e, _⟩ := h; exact ⟨_, e, rfl⟩
theorem RelS.some {U : Wd} {G : Gh} {S : Sto} {H : Hp} (r : RelS U G S H) {i : Nat} (h : i < G.n) : ∃ u, H (G.ι i) = some u ∧ chg u = true := by
  obtain ⟨o, e⟩ := r.wf.get (n := i) (by rw [← r.n]; exact h)
  exact (r.at_ i o e).some
/-- an address that nothing tracks is none of the store's -/
theorem RelS.ns {U : Wd} {G : Gh} {S : Sto} {H : Hp} (r : RelS U G S H) {p : Addr} (h : H p = none) : NS G p := by
  refine ⟨fun i hi e => ?_, fun z => ?_⟩
  · obtain ⟨u, q, _⟩ := r.some hi
    rw [e, h] at q; cases q
  · obtain ⟨u, q, _⟩ := r.hid p z
    rw [h] at q; cases q
/-- what never changes is none of the store's -/
theorem RelS.ns_tup {U : Wd} {G : Gh} {S : Sto} {H : Hp} (r : RelS U G S H) {p : Addr} {xs : List V} (h : Rd H p (.tup xs)) : NS G p := by
  refine ⟨fun i hi e => ?_, fun z => ?_⟩
  · obtain ⟨u, q, m⟩ := r.some hi
    rw [e] at q
    rcases h with h | ⟨o, h⟩ <;> (rw [h] at q; cases q; cases m)
  · obtain ⟨u, q, m⟩ := r.hid p z
    rcases h with h | ⟨o, h⟩ <;> (rw [h] at q; cases q; cases m)
/-- objects stay as they are under a step that leaves the store's objects -/
theorem OV.kp {U : Wd} {G G' : Gh} {H H' : Hp} {o : O} {a : Addr} (h : OV U G H o a) (s : Keep G H G' H') (k : H' a = H a) : OV U G' H' o a := by
  cases o with
  | lst ds => obtain ⟨vs, e, q⟩ := h; exact ⟨vs, k.trans e, q.kp s⟩
  | dct ks zs => obtain ⟨kvs, e, q1, q2⟩ := h; exact ⟨kvs, k.trans e, q1, q2.kp s⟩
  | dcn ks zs => obtain ⟨xs, e, q1, q3, q2⟩ := h; exact ⟨xs, k.trans e, q1, q3.kp s, q2.kp s⟩
  | bag b => obtain ⟨c, e, q⟩ := h; exact ⟨c, k.trans e, q.kp s⟩
  | ins c fs => obtain ⟨C, dx, fvs, m, e, ed, nd, q1, q2⟩ := h; exact ⟨C, dx, fvs, m, k.trans e, (s.keep _ _ ed nd).1, (s.keep _ _ ed nd).2, q1, q2.kp s⟩
theorem OV.mono {U : Wd} {G G' : Gh} {H H' : Hp} {o : O} {a : Addr} (h : OV U G H o a) (s : Step G H G' H') (k : H' a = H a) : OV U G' H' o a := h.kp s.kp k
end Z

/-! Z2: results, the judgements over values, names, constants, tests, operators. -/
namespace Z
open PySem PySem.Spec PyProof.Rows L2

/-- an exception: its class's name, its fields -/
structure Ex where
  cls : Str
  fs : List (Str × D)
inductive R (α : Type) where
  | ok (a : α) (S : Sto) | ex (x : Ex) (S : Sto) | bad
def R.bind {α β : Type} (r : R α) (k : α → Sto → R β) : R β := match r with
  | .ok a S => k a S
  | .ex x S => .ex x S
  | .bad => .bad
abbrev Env := List (Option D)
abbrev E := Env → Sto → R D
abbrev T := Env → Sto → R Bool
abbrev As := Env → Sto → R (List D)
/-- a statement's end -/
inductive RS where
  | nx (ρ : Env) (S : Sto) | rt (d : D) (S : Sto) | bk (ρ : Env) (S : Sto) | ct (ρ : Env) (S : Sto) | ex (x : Ex) (ρ : Env) (S : Sto) | bad
abbrev C := Env → Sto → RS

/-- the exception x, by its class and its own dict -/
def XV (U : Wd) (G : Gh) (H : Hp) (x : Ex) (cls : Value) (dd : Option Addr) : Prop := ∃ C, U.mg x.cls = some (.ref C) ∧ cls = .ref C ∧
  ((x.fs = [] ∧ dd = none) ∨ ∃ d fvs, dd = some d ∧ H d = some (.xd fvs) ∧ NS G d ∧ x.fs.map (·.1) = fvs.map (·.1) ∧ DVs U G H (x.fs.map (·.2)) (fvs.map (·.2)))

section
variable {α β α' β' : Type}
/-- what is wanted of a result -/
def Go (rel : Gh → Hp → α → α' → Prop) (U : Wd) (W : WX) (σ : L2.St) (G : Gh) (H : Hp) (r : R α) (Q : α' → Hp → Prop) : Prop := match r with
  | .ok d S' => ∀ G' v H', Step G H G' H' → RelS U G' S' H' → rel G' H' d v → Q v H'
  | .ex x S' => ∀ G' H' cls dd, Step G H G' H' → RelS U G' S' H' → XV U G' H' x cls dd → W cls dd σ H'
  | .bad => False
variable {rel : Gh → Hp → α → α' → Prop} {rel2 : Gh → Hp → β → β' → Prop} {U : Wd} {W : WX} {σ : L2.St} {G G1 : Gh} {H H1 : Hp}
theorem Go.step {r : R α} {Q : α' → Hp → Prop} (s : Step G H G1 H1) (h : Go rel U W σ G H r Q) : Go rel U W σ G1 H1 r Q := by
  cases r with
  | ok d S => exact fun G' v H' s' => h G' v H' (s.trans s')
  | ex x S => exact fun G' H' c dd s' => h G' H' c dd (s.trans s')
  | bad => exact h
theorem Go.mono {r : R α} {Q Q' : α' → Hp → Prop} (h : Go rel U W σ G H r Q) (i : ∀ v H', Q v H' → Q' v H') : Go rel U W σ G H r Q' := by
  cases r with
  | ok d S => exact fun G' v H' s r q => i v H' (h G' v H' s r q)
  | ex x S => exact h
  | bad => exact h
theorem Go.bind {r : R α} {k : α → Sto → R β} {Q : β' → Hp → Prop} (h : Go rel2 U W σ G H (r.bind k) Q) :
    Go rel U W σ G H r (fun v H1 => ∃ G1 a S1, Step G H G1 H1 ∧ RelS U G1 S1 H1 ∧ rel G1 H1 a v ∧ Go rel2 U W σ G1 H1 (k a S1) Q) := by
  cases r with
  | ok d S => exact fun G' v H' s r q => ⟨G', d, S, s, r, q, Go.step s h⟩
  | ex x S => exact h
  | bad => exact h
/-- a result as it stands -/
theorem Go.ret {d : α} {S : Sto} {v : α'} {Q : α' → Hp → Prop} (h : Go rel U W σ G H (.ok d S) Q) (r : RelS U G S H) (q : rel G H d v) : Q v H := h G v H Step.refl r q
end

abbrev GoD (U : Wd) := Go (α := D) (α' := V) (DV U) U
abbrev relB : Gh → Hp → Bool → Bool → Prop := fun _ _ a b => a = b
abbrev GoB (U : Wd) := Go (α := Bool) (α' := Bool) relB U
abbrev relA (U : Wd) : Gh → Hp → List D → List V → Prop := fun G H a b => DVs U G H a b
abbrev GoA (U : Wd) := Go (α := List D) (α' := List V) (relA U) U

/-! ### the judgements -/
def tEv (U : Wd) (m : E) (W : WX) : TE := fun σ H Q => ∃ G ρ S, RelS U G S H ∧ RelE U G ρ σ H ∧ GoD U W σ G H (m ρ S) Q
def tTv (U : Wd) (m : T) (W : WX) : TT := fun σ H Q => ∃ G ρ S, RelS U G S H ∧ RelE U G ρ σ H ∧ GoB U W σ G H (m ρ S) Q
def tAv (U : Wd) (m : As) (W : WX) : TA := fun σ H Q => ∃ G ρ S, RelS U G S H ∧ RelE U G ρ σ H ∧ GoA U W σ G H (m ρ S) Q
def CE (X : Cx) (e : Expr) (m : E) : Prop := ∀ W, Takes X W → PE X e (tEv (wd X) m W)
def CT (X : Cx) (e : Expr) (m : T) : Prop := ∀ W, Takes X W → PT X e (tTv (wd X) m W)
def CW (X : Cx) (e : Expr) (m : T) : Prop := ∀ W, Takes X W → PW X e (tTv (wd X) m W)
def CA (X : Cx) (es : List Expr) (m : As) : Prop := ∀ W, Takes X W → PA X es (tAv (wd X) m W)

theorem PE.imp {X : Cx} {e : Expr} {t t' : TE} (h : PE X e t) (i : ∀ σ H Q, t' σ H Q → t σ H Q) : PE X e t' := ⟨fun p s σ H Q I q => h.run p s σ H Q I (i σ H Q q)⟩
theorem PT.imp {X : Cx} {e : Expr} {t t' : TT} (h : PT X e t) (i : ∀ σ H Q, t' σ H Q → t σ H Q) : PT X e t' := ⟨fun p s σ H Q I q => h.run p s σ H Q I (i σ H Q q)⟩
theorem PW.imp {X : Cx} {e : Expr} {t t' : TT} (h : PW X e t) (i : ∀ σ H Q, t' σ H Q → t σ H Q) : PW X e t' := ⟨fun w p s σ H Q I q => h.run w p s σ H Q I (i σ H Q q)⟩
theorem PA.imp {X : Cx} {e : List Expr} {t t' : TA} (h : PA X e t) (i : ∀ σ H Q, t' σ H Q → t σ H Q) : PA X e t' := ⟨fun w p s σ H Q I q => h.run w p s σ H Q I (i σ H Q q)⟩
theorem OpR.imp {X : Cx} {f : Value → Value → Sem Value} {r r' : R2} (h : OpR X f r) (i : ∀ x y H Q, r' x y H Q → r x y H Q) : OpR X f r' := fun pins s σ H x y v u Q I rx ry q => h pins s σ H x y v u Q I rx ry (i x y H Q q)
theorem CallR.imp {X : Cx} {f : Value} {r r' : List V → Hp → VK → Prop} (h : CallR X f r) (i : ∀ x H Q, r' x H Q → r x H Q) : CallR X f r' := fun pins s σ H x v Q I rx q => h pins s σ H x v Q I rx (i x H Q q)

/-- an expression in front of what is wanted behind it -/
theorem tEv.bind {α α' : Type} {rel : Gh → Hp → α → α' → Prop} {U : Wd} {m : E} {W : WX} {σ : L2.St} {H : Hp} {G : Gh} {ρ : Env} {S : Sto} {k : D → Sto → R α} {Q : α' → Hp → Prop} (rs : RelS U G S H) (re : RelE U G ρ σ H)
    (h : Go rel U W σ G H ((m ρ S).bind k) Q) : tEv U m W σ H (fun v H1 => ∃ G1 a S1, Step G H G1 H1 ∧ RelS U G1 S1 H1 ∧ RelE U G1 ρ σ H1 ∧ DV U G1 H1 a v ∧ Go rel U W σ G1 H1 (k a S1) Q) :=
  ⟨G, ρ, S, rs, re, Go.mono (Go.bind (rel := DV U) h) fun v H1 ⟨G1, a, S1, s, r, q, g⟩ => ⟨G1, a, S1, s, r, re.mono s, q, g⟩⟩
theorem tTv.bind {α α' : Type} {rel : Gh → Hp → α → α' → Prop} {U : Wd} {m : T} {W : WX} {σ : L2.St} {H : Hp} {G : Gh} {ρ : Env} {S : Sto} {k : Bool → Sto → R α} {Q : α' → Hp → Prop} (rs : RelS U G S H) (re : RelE U G ρ σ H)
    (h : Go rel U W σ G H ((m ρ S).bind k) Q) : tTv U m W σ H (fun b H1 => ∃ G1 S1, Step G H G1 H1 ∧ RelS U G1 S1 H1 ∧ RelE U G1 ρ σ H1 ∧ Go rel U W σ G1 H1 (k b S1) Q) :=
  ⟨G, ρ, S, rs, re, Go.mono (Go.bind (rel := relB) h) fun v H1 ⟨G1, a, S1, s, r, q, g⟩ => ⟨G1, S1, s, r, re.mono s, by cases (show a = v from q); exact g⟩⟩
theorem tAv.bind {α α' : Type} {rel : Gh → Hp → α → α' → Prop} {U : Wd} {m : As} {W : WX} {σ : L2.St} {H : Hp} {G : Gh} {ρ : Env} {S : Sto} {k : List D → Sto → R α} {Q : α' → Hp → Prop} (rs : RelS U G S H) (re : RelE U G ρ σ H)
    (h : Go rel U W σ G H ((m ρ S).bind k) Q) : tAv U m W σ H (fun v H1 => ∃ G1 a S1, Step G H G1 H1 ∧ RelS U G1 S1 H1 ∧ RelE U G1 ρ σ H1 ∧ DVs U G1 H1 a v ∧ Go rel U W σ G1 H1 (k a S1) Q) :=
  ⟨G, ρ, S, rs, re, Go.mono (Go.bind (rel := relA U) h) fun v H1 ⟨G1, a, S1, s, r, q, g⟩ => ⟨G1, a, S1, s, r, re.mono s, q, g⟩⟩

section
variable {X : Cx} {pos : Pos}
/-! ### names and constants -/
def eVar (i : Nat) : E := fun ρ S => match ρ[i]? with
  | some (some d) => .ok d S
  | _ => .bad
def eC (d : D) : E := fun _ S => .ok d S
theorem ce_var (i : Nat) {x : Str} (hN : X.N[i]? = some x := by rfl) (hv : Vis X.env.scope x := by first | exact Or.inl rfl | exact Or.inr (Or.inl rfl) | exact Or.inr (Or.inr rfl)) (hd : (x == ("__debug__" : Str)) = false := by decide) (hcd : (x == ("__classdict__" : Str)) = false := by decide) :
    CE X (.Name x pos) (eVar i) := fun W tk => PE.imp (pe_var hN hv hd hcd) fun σ H Q ⟨G, ρ, S, rs, re, h⟩ => by
  unfold eVar at h
  split at h
  · rename_i d e
    obtain ⟨v, e1, q⟩ := re.2 i d e
    exact ⟨v, e1, Go.ret h rs q⟩
  · exact h.elim
theorem ce_int {i j} : CE X (.Constant (.int i) j pos) (eC (.int i)) := fun W tk => PE.imp pe_int fun σ H Q ⟨G, ρ, S, rs, re, h⟩ => Go.ret h rs rfl
theorem ce_bl {i j} : CE X (.Constant (.bool i) j pos) (eC (.bl i)) := fun W tk => PE.imp pe_bl fun σ H Q ⟨G, ρ, S, rs, re, h⟩ => Go.ret h rs rfl
theorem ce_non {j} : CE X (.Constant .none j pos) (eC .non) := fun W tk => PE.imp pe_non fun σ H Q ⟨G, ρ, S, rs, re, h⟩ => Go.ret h rs rfl
theorem ce_str {x : Str} {l : List Nat} {j} (hx : x = ⟨l.toArray⟩ := by rfl) : CE X (.Constant (.str x) j pos) (eC (.str l)) := fun W tk => PE.imp pe_str fun σ H Q ⟨G, ρ, S, rs, re, h⟩ => Go.ret h rs (congrArg V.str hx)
/-- a name of the module -/
theorem ce_glob {x : Str} {d : D} {v : V} {u : Value} (hg : Gl X x) (hm : X.mg x = some u) (r : RelV v u) (q : ∀ G H, DV (wd X) G H d v) (hd : (x == ("__debug__" : Str)) = false := by decide) : CE X (.Name x pos) (eC d) :=
  fun W tk => PE.imp (pe_glob hg hm r hd) fun σ H Q ⟨G, ρ, S, rs, re, h⟩ => Go.ret h rs (q G H)

/-! ### arguments, displays -/
def aNil : As := fun _ S => .ok [] S
def aCons (m : E) (ms : As) : As := fun ρ S => (m ρ S).bind fun a S => (ms ρ S).bind fun as S => .ok (a :: as) S
theorem DVs.nil {U : Wd} {G : Gh} {H : Hp} : DVs U G H [] [] := rfl
theorem DVs.cons {U : Wd} {G : Gh} {H : Hp} {d : D} {v : V} {ds : List D} {vs : List V} (h : DV U G H d v) (t : DVs U G H ds vs) : DVs U G H (d :: ds) (v :: vs) := ⟨v, vs, rfl, h, t⟩
theorem ca_nil : CA X [] aNil := fun W tk => PA.imp pa_nil fun σ H Q ⟨G, ρ, S, rs, re, h⟩ => Go.ret h rs DVs.nil
theorem ca_cons {e : Expr} {es : List Expr} {m : E} {ms : As} (he : CE X e m) (hs : CA X es ms) (hst : starEach (e :: es) X.env = (false, eval e X.env) :: starEach es X.env := by rfl) : CA X (e :: es) (aCons m ms) := fun W tk =>
  PA.imp (pa_cons (he W tk) (hs W tk) hst) fun σ H Q ⟨G, ρ, S, rs, re, h⟩ => by
    obtain ⟨G0, ρ0, S0, a, b, c⟩ := tEv.bind rs re h
    refine ⟨G0, ρ0, S0, a, b, Go.mono c fun v H1 ⟨G1, d, S1, s, rs1, re1, dv, g⟩ => ?_⟩
    obtain ⟨G0, ρ0, S0, a, b, c⟩ := tAv.bind rs1 re1 g
    exact ⟨G0, ρ0, S0, a, b, Go.mono c fun vs H2 ⟨G2, ds, S2, s2, rs2, re2, dvs, g2⟩ => Go.ret g2 rs2 (DVs.cons (dv.mono s2) dvs)⟩
def line : Nat := 16777216
theorem line_eq : line = sizeLine := by rw [sizeLine_eq]; rfl
/-- no more than the line -/
def fits (n : Nat) : Bool := Nat.ble n 16777216
theorem fits_le {n : Nat} (h : fits n = true) : n ≤ sizeLine := by rw [sizeLine_eq]; exact Nat.le_of_ble_eq_true h
theorem DVs.length {U : Wd} {G : Gh} {H : Hp} : ∀ {ds : List D} {vs : List V}, DVs U G H ds vs → vs.length = ds.length
  | [], _, h => by rw [show _ = _ from h]; rfl
  | d :: ds, _, ⟨v, r, e, _, h⟩ => by rw [e, List.length_cons, List.length_cons, DVs.length h]
/-- a new object that is none of the store's -/
theorem step_new {U : Wd} {G : Gh} {S : Sto} {H : Hp} {p : Addr} {o : HO} (rs : RelS U G S H) (hp : H p = none) : Step G H G (upd H p o) where
  keep := fun a u h _ => by rw [upd_ne (ne_of_none h hp)]; exact h
  hid := fun _ h => h
  hnew := fun _ h => .inl h
  le := Nat.le_refl _
  ι := fun _ _ => rfl
  new := fun i h1 h2 => absurd h2 (Nat.not_lt.mpr h1)
  there := fun i hi ⟨u, h⟩ => by rw [upd_ne (ne_of_none h hp)]; exact ⟨u, h⟩
theorem rel_new {U : Wd} {G : Gh} {S : Sto} {H : Hp} {p : Addr} {o : HO} (rs : RelS U G S H) (hp : H p = none) : RelS U G S (upd H p o) where
  wf := rs.wf
  n := rs.n
  at_ := fun i u e => by
    have z := rs.at_ i u e
    obtain ⟨w, hw, _⟩ := z.some
    have k : upd H p o (G.ι i) = H (G.ι i) := upd_ne (ne_of_none hw hp)
    exact z.mono (step_new rs hp) k
  inj := rs.inj
  hid := fun a z => by
    obtain ⟨u, h, m⟩ := rs.hid a z
    exact ⟨u, by rw [upd_ne (ne_of_none h hp)]; exact h, m⟩
  dis := rs.dis
theorem new_tup {U : Wd} {G : Gh} {S : Sto} {H : Hp} {p : Addr} {ds : List D} {vs : List V} (rs : RelS U G S H) (hp : H p = none) (q : DVs U G H ds vs) : DV U G (upd H p (.tup vs)) (.tup ds) (.ref p) :=
  ⟨p, vs, rfl, .inl ⟨.inl upd_same, rs.ns hp⟩, q.mono (step_new rs hp)⟩
theorem new_lst {U : Wd} {G : Gh} {S : Sto} {H : Hp} {p : Addr} {ds : List D} {vs : List V} (rs : RelS U G S H) (hp : H p = none) (q : DVs U G H ds vs) : DV U G (upd H p (.lst vs)) (.lst ds) (.ref p) :=
  ⟨p, vs, rfl, ⟨.inl upd_same, rs.ns hp⟩, q.mono (step_new rs hp)⟩
theorem Go.new {α α' : Type} {rel : Gh → Hp → α → α' → Prop} {U : Wd} {W : WX} {σ : L2.St} {G : Gh} {H : Hp} {d : α} {S : Sto} {Q : α' → Hp → Prop} {p : Addr} {o : HO} {v : α'} (h : Go rel U W σ G H (.ok d S) Q) (rs : RelS U G S H) (hp : H p = none) (q : rel G (upd H p o) d v) : Q v (upd H p o) :=
  h G v _ (step_new rs hp) (rel_new rs hp) q
def eTup (m : As) : E := fun ρ S => (m ρ S).bind fun as S => if fits as.length = true then .ok (.tup as) S else .bad
theorem ce_tup {es : List Expr} {k : Nat} {m : As} (h : CA X es m) : CE X (.Tuple es k pos) (eTup m) := fun W tk => PE.imp (pe_tup (h W tk)) fun σ H Q ⟨G, ρ, S, rs, re, h⟩ => by
  obtain ⟨G0, ρ0, S0, a, b, c⟩ := tAv.bind rs re h
  refine ⟨G0, ρ0, S0, a, b, Go.mono c fun vs H1 ⟨G1, ds, S1, s, rs1, re1, dvs, g⟩ => ?_⟩
  split at g
  · rename_i hf
    refine ⟨by rw [dvs.length]; exact fits_le hf, fun p hp => Go.new g rs1 hp (new_tup rs1 hp dvs)⟩
  · exact g.elim
/-- a list that is never changed -/
def eLst (m : As) : E := fun ρ S => (m ρ S).bind fun as S => if fits as.length = true then .ok (.lst as) S else .bad
theorem ce_lst {es : List Expr} {m : As} (h : CA X es m) : CE X (.List es pos) (eLst m) := fun W tk => PE.imp (pe_lst (h W tk)) fun σ H Q ⟨G, ρ, S, rs, re, h⟩ => by
  obtain ⟨G0, ρ0, S0, a, b, c⟩ := tAv.bind rs re h
  refine ⟨G0, ρ0, S0, a, b, Go.mono c fun vs H1 ⟨G1, ds, S1, s, rs1, re1, dvs, g⟩ => ?_⟩
  split at g
  · rename_i hf
    refine ⟨by rw [dvs.length]; exact fits_le hf, fun p hp => Go.new g rs1 hp (new_lst rs1 hp dvs)⟩
  · exact g.elim
/-! a new object of the store -/
def Gh.push (G : Gh) (p : Addr) : Gh := ⟨G.n + 1, fun i => if i < G.n then G.ι i else p, G.hid⟩
theorem push_lt {G : Gh} {p : Addr} {i : Nat} (h : i < G.n) : (G.push p).ι i = G.ι i := if_pos h
theorem push_self {G : Gh} {p : Addr} : (G.push p).ι G.n = p := if_neg (Nat.lt_irrefl _)
theorem step_push {U : Wd} {G : Gh} {S : Sto} {H : Hp} {p : Addr} {o : HO} (rs : RelS U G S H) (hp : H p = none) : Step G H (G.push p) (upd H p o) where
  keep := fun a u h _ => by rw [upd_ne (ne_of_none h hp)]; exact h
  hid := fun _ h => h
  hnew := fun _ h => .inl h
  le := Nat.le_succ _
  ι := fun _ h => push_lt h
  new := fun i h1 h2 => by
    have e : i = G.n := by have : i < G.n + 1 := h2; omega
    rw [e, push_self]; exact hp
  there := fun i hi ⟨u, h⟩ => by rw [upd_ne (ne_of_none h hp)]; exact ⟨u, h⟩
theorem rel_push {U : Wd} {G : Gh} {S : Sto} {H : Hp} {p : Addr} {o : O} {ho : HO} (rs : RelS U G S H) (hp : H p = none) (q : OV U (G.push p) (upd H p ho) o p) : RelS U (G.push p) (S.push o) (upd H p ho) where
  wf := rs.wf.push
  n := by show G.n + 1 = S.len + 1; rw [rs.n]
  at_ := fun i u e => by
    have hi : i < S.len + 1 := Sto.get_lt e
    by_cases hl : i < S.len
    · have hlG : i < G.n := by rw [rs.n]; exact hl
      rw [Sto.get_push_lt hl] at e
      have z := rs.at_ i u e
      obtain ⟨w, hw, _⟩ := z.some
      rw [push_lt hlG]
      exact z.mono (step_push rs hp) (upd_ne (ne_of_none hw hp))
    · have ei : i = S.len := by omega
      subst ei
      rw [Sto.get_push_self] at e
      cases e
      rw [← rs.n, push_self]
      exact q
  inj := fun i j hi hj e => by
    have hi : i < G.n + 1 := hi
    have hj : j < G.n + 1 := hj
    by_cases h1 : i < G.n <;> by_cases h2 : j < G.n
    · rw [push_lt h1, push_lt h2] at e; exact rs.inj i j h1 h2 e
    · have e2 : j = G.n := by omega
      rw [push_lt h1, e2, push_self] at e
      exact absurd e ((rs.ns hp).1 i h1)
    · have e2 : i = G.n := by omega
      rw [push_lt h2, e2, push_self] at e
      exact absurd e.symm ((rs.ns hp).1 j h2)
    · omega
  hid := fun a z => by
    obtain ⟨u, h, m⟩ := rs.hid a z
    exact ⟨u, by rw [upd_ne (ne_of_none h hp)]; exact h, m⟩
  dis := fun i hi z => by
    have hi : i < G.n + 1 := hi
    by_cases h1 : i < G.n
    · rw [push_lt h1] at z; exact rs.dis i h1 z
    · have e2 : i = G.n := by omega
      rw [e2, push_self] at z
      exact (rs.ns hp).2 z
/-! a change of one of the store's objects -/
theorem step_put {U : Wd} {G : Gh} {S : Sto} {H : Hp} {n : Nat} {o : HO} (rs : RelS U G S H) (hn : n < G.n) : Step G H G (upd H (G.ι n) o) where
  keep := fun a u h z => by
    have : a ≠ G.ι n := fun e => by
      subst e
      exact z.elim (fun z => z.1 n hn rfl) (rs.dis n hn)
    rw [upd_ne this]; exact h
  hid := fun _ h => h
  hnew := fun _ h => .inl h
  le := Nat.le_refl _
  ι := fun _ _ => rfl
  new := fun i h1 h2 => absurd h2 (Nat.not_lt.mpr h1)
  there := fun i hi ⟨u, h⟩ => by
    by_cases e : G.ι i = G.ι n
    · rw [e]; exact ⟨_, upd_same⟩
    · rw [upd_ne e]; exact ⟨u, h⟩
theorem rel_put {U : Wd} {G : Gh} {S : Sto} {H : Hp} {n : Nat} {o : HO} {ob : O} (rs : RelS U G S H) (hn : n < G.n) (q : OV U G (upd H (G.ι n) o) ob (G.ι n)) : RelS U G (S.set n ob) (upd H (G.ι n) o) where
  wf := rs.wf.set
  n := by rw [Sto.set_len]; exact rs.n
  at_ := fun i u e => by
    by_cases hi : i = n
    · subst hi
      rw [Sto.get_set_self rs.wf (by rw [← rs.n]; exact hn)] at e
      cases e
      exact q
    · rw [Sto.get_set_ne hi] at e
      have hl : i < G.n := by
        have := Sto.get_lt e
        rw [rs.n]; exact this
      refine (rs.at_ i u e).mono (step_put rs hn) (upd_ne fun z => hi (rs.inj i n hl hn z))
  inj := rs.inj
  hid := fun a z => by
    obtain ⟨u, h, m⟩ := rs.hid a z
    have : a ≠ G.ι n := fun e => by subst e; exact rs.dis n hn z
    exact ⟨u, by rw [upd_ne this]; exact h, m⟩
  dis := rs.dis
end
end Z

/-! Z3: equality, order, membership, arithmetic over values. -/
namespace Z
open PySem PySem.Spec PyProof.Rows L2

mutual
/-- == of values without references -/
def eqv : D → D → Bool
  | .non, .non => true
  | .bl a, .bl b => a == b
  | .bl a, .int j => decide ((if a then 1 else 0 : Int) = j)
  | .int i, .bl b => decide (i = (if b then 1 else 0 : Int))
  | .int i, .int j => decide (i = j)
  | .str x, .str y => decide (x = y)
  | .lst xs, .lst ys => eqvs xs ys
  | .tup xs, .tup ys => eqvs xs ys
  | _, _ => false
def eqvs : List D → List D → Bool
  | [], [] => true
  | x :: xs, y :: ys => eqv x y && eqvs xs ys
  | _, _ => false
end
mutual
def toPy : D → PyData
  | .non => .none
  | .bl b => .bool b
  | .int i => .int i
  | .str s => .str ⟨s.toArray⟩
  | .tup ds => .tuple (toPys ds)
  | .lst ds => .list (toPys ds)
  | .dct _ _ => .dict []
  | .dcn _ _ => .dict []
  | .ref _ => .dict []
  | .arg _ => .dict []
def toPys : List D → List PyData
  | [] => []
  | d :: ds => toPy d :: toPys ds
end
theorem str_eq {x y : List Nat} : ((⟨x.toArray⟩ : Str) == ⟨y.toArray⟩) = decide (x = y) := by
  by_cases e : x = y
  · subst e; simp
  · have : ¬ ((⟨x.toArray⟩ : Str) = ⟨y.toArray⟩) := fun z => e (by injection z with z; simpa using congrArg Array.toList z)
    rw [decide_eq_false e]; exact beq_eq_false_iff_ne.mpr this
mutual
theorem eqv_py : ∀ a b : D, PyData.eqv (toPy a) (toPy b) = eqv a b
  | .non, b => by cases b <;> rfl
  | .bl x, b => by
    cases b <;> first
      | rfl
      | (simp only [toPy, PyData.eqv, eqv]; exact (by rw [Bool.eq_iff_iff]; simp))
  | .int x, b => by
    cases b <;> first
      | rfl
      | (simp only [toPy, PyData.eqv, eqv]; exact (by rw [Bool.eq_iff_iff]; simp))
  | .str x, b => by
    cases b <;> first
      | rfl
      | exact str_eq
  | .tup xs, b => by
    cases b <;> first
      | rfl
      | (simp only [toPy, PyData.eqv, eqv]; exact eqvs_py _ _)
  | .lst xs, b => by
    cases b <;> first
      | rfl
      | (simp only [toPy, PyData.eqv, eqv]; exact eqvs_py _ _)
  | .dct _ _, b => by cases b <;> rfl
  | .dcn _ _, b => by cases b <;> rfl
  | .ref _, b => by cases b <;> rfl
  | .arg _, b => by cases b <;> rfl
theorem eqvs_py : ∀ a b : List D, PyData.eqvAll (toPys a) (toPys b) = eqvs a b
  | [], [] => rfl
  | [], _ :: _ => rfl
  | _ :: _, [] => rfl
  | x :: xs, y :: ys => by
    simp only [toPys, PyData.eqvAll, eqvs]
    rw [eqv_py x y, eqvs_py xs ys]
end
mutual
/-- of that depth at most, no references -/
def shp : Nat → D → Bool
  | _, .non => true
  | _, .bl _ => true
  | _, .int _ => true
  | _, .str s => s.all fun c => Nat.blt c 0x110000
  | n, .tup ds => shps n ds
  | n, .lst ds => shps n ds
  | _, .dct _ _ => false
  | _, .dcn _ _ => false
  | _, .ref _ => false
  | _, .arg _ => false
def shps : Nat → List D → Bool
  | 0, _ => false
  | _ + 1, [] => true
  | n + 1, d :: ds => shp n d && shps (n + 1) ds
end
mutual
theorem shp_ok : ∀ (n : Nat) (d : D), shp n d = true → (toPy d).canLay0 = true ∧ (toPy d).depth ≤ n
  | _, .non, _ => ⟨rfl, Nat.zero_le _⟩
  | _, .bl _, _ => ⟨rfl, Nat.zero_le _⟩
  | _, .int _, _ => ⟨rfl, Nat.zero_le _⟩
  | _, .str s, h => ⟨by
      show Array.all s.toArray (fun c => decide (c < 0x110000)) = true
      rw [List.all_toArray]
      have h : (s.all fun c => Nat.blt c 0x110000) = true := by simpa [shp] using h
      rw [List.all_eq_true] at h ⊢
      intro x hx
      have := h x hx
      exact decide_eq_true (Nat.lt_of_lt_of_le (Nat.le_of_ble_eq_true this) (Nat.le_refl _)), Nat.zero_le _⟩
  | n, .tup ds, h => by
    have h : shps n ds = true := by simpa [shp] using h
    exact shps_ok n ds h
  | n, .lst ds, h => by
    have h : shps n ds = true := by simpa [shp] using h
    exact shps_ok n ds h
  | _, .dct _ _, h => by simp [shp] at h
  | _, .dcn _ _, h => by simp [shp] at h
  | _, .ref _, h => by simp [shp] at h
  | _, .arg _, h => by simp [shp] at h
theorem shps_ok : ∀ (n : Nat) (ds : List D), shps n ds = true → PyData.canLayAll0 (toPys ds) = true ∧ PyData.depthAll (toPys ds) + 1 ≤ n
  | 0, _, h => by simp [shps] at h
  | n + 1, [], _ => ⟨rfl, by simp [toPys, PyData.depthAll]⟩
  | n + 1, d :: ds, h => by
    have h : (shp n d && shps (n + 1) ds) = true := by simpa [shps] using h
    obtain ⟨h1, h2⟩ := Bool.and_eq_true_iff.mp h
    obtain ⟨a1, a2⟩ := shp_ok n d h1
    obtain ⟨b1, b2⟩ := shps_ok (n + 1) ds h2
    refine ⟨by simp [toPys, PyData.canLayAll0, a1, b1], ?_⟩
    simp only [toPys, PyData.depthAll]
    omega
end
/-- a list of the store, read -/
def rd (S : Sto) : D → D
  | .ref n => match S.get n with
    | some (.lst ds) => .lst ds
    | some (.dct ks zs) => .dct ks zs
    | some (.dcn ks zs) => .dcn ks zs
    | some (.bag b) => .lst [.int b.a, .int b.b, .int b.c, .lst (b.l.map .int)]
    | _ => .ref n
  | d => d
section
variable {U : Wd} {G : Gh} {H : Hp} {S : Sto}
mutual
theorem DV.dp : ∀ {d : D} {v : V} {n : Nat}, shp n d = true → DV U G H d v → Dp U.K H v (toPy d)
  | .non, _, _, _, h => by cases (show _ = _ from h); exact .non
  | .bl b, _, _, _, h => by cases (show _ = _ from h); exact .bl b
  | .int i, _, _, _, h => by cases (show _ = _ from h); exact .int i
  | .str s, _, _, _, h => by cases (show _ = _ from h); exact .str _
  | .tup ds, _, n, hs, ⟨a, vs, e, t, h⟩ => by
    subst e
    exact .tup t.sq (DVs.dp (n := n) (by simpa [shp] using hs) h)
  | .lst ds, _, n, hs, ⟨a, vs, e, t, h⟩ => by
    subst e
    exact .lst t.sq (DVs.dp (n := n) (by simpa [shp] using hs) h)
  | .dct _ _, _, _, hs, _ => by simp [shp] at hs
  | .dcn _ _, _, _, hs, _ => by simp [shp] at hs
  | .ref _, _, _, hs, _ => by simp [shp] at hs
  | .arg _, _, _, hs, _ => by simp [shp] at hs
theorem DVs.dp : ∀ {ds : List D} {vs : List V} {n : Nat}, shps n ds = true → DVs U G H ds vs → DpAll U.K H vs (toPys ds)
  | [], _, _, _, h => by cases (show _ = _ from h); exact .nil
  | d :: ds, _, 0, hs, _ => by simp [shps] at hs
  | d :: ds, _, n + 1, hs, ⟨v, r, e, h1, h2⟩ => by
    subst e
    have hs : (shp n d && shps (n + 1) ds) = true := by simpa [shps] using hs
    obtain ⟨s1, s2⟩ := Bool.and_eq_true_iff.mp hs
    exact .cons (DV.dp s1 h1) (DVs.dp s2 h2)
end
theorem ints_vs : ∀ {l : List Int}, DVs U G H (l.map .int) (l.map .int)
  | [] => rfl
  | i :: l => ⟨_, _, rfl, rfl, ints_vs⟩
theorem bag_vs {b : Bag} {c : Addr} (q : LstAt U G H c (b.l.map .int)) : DVs U G H [D.int b.a, .int b.b, .int b.c, .lst (b.l.map .int)] [.int b.a, .int b.b, .int b.c, .ref c] :=
  ⟨_, _, rfl, rfl, _, _, rfl, rfl, _, _, rfl, rfl, _, _, rfl, ⟨_, _, rfl, q, ints_vs⟩, rfl⟩
theorem DV.dpr (rs : RelS U G S H) {d : D} {v : V} {n : Nat} (hs : shp n (rd S d) = true) (h : DV U G H d v) : Dp U.K H v (toPy (rd S d)) := by
  cases d with
  | ref m =>
    obtain ⟨hm, rfl⟩ := h
    unfold rd at hs ⊢
    dsimp only at hs ⊢
    cases e : S.get m with
    | none => rw [e] at hs; simp [shp] at hs
    | some o =>
      rw [e] at hs
      cases o with
      | lst ds =>
        dsimp only at hs ⊢
        obtain ⟨vs, e1, q⟩ := rs.at_ m _ e
        exact .lst (.inl (.inl e1)) (DVs.dp (n := n) (by simpa [shp] using hs) q)
      | dct ks zs => simp [shp] at hs
      | dcn ks zs => simp [shp] at hs
      | bag b =>
        dsimp only at hs ⊢
        obtain ⟨c, e1, q⟩ := rs.at_ m _ e
        have qs : DVs U G H [D.int b.a, .int b.b, .int b.c, .lst (b.l.map .int)] [.int b.a, .int b.b, .int b.c, .ref c] := bag_vs q
        exact .lst (.inl (.inl e1)) (DVs.dp (n := n) (by simpa [shp] using hs) qs)
      | ins c fs => simp [shp] at hs
  | non => exact DV.dp hs h
  | bl b => exact DV.dp hs h
  | int i => exact DV.dp hs h
  | str s => exact DV.dp hs h
  | tup ds => exact DV.dp hs h
  | lst ds => exact DV.dp hs h
  | dct ks zs => exact DV.dp hs h
  | dcn ks zs => exact DV.dp hs h
  | arg ns => exact DV.dp hs h
end
theorem shaped_of {n : Nat} {d : D} (h : shp n d = true) (hn : n ≤ 64) : SeqAt.shaped (toPy d) = true := by
  obtain ⟨a, b⟩ := shp_ok n d h
  unfold SeqAt.shaped
  rw [a, Bool.true_and]
  exact decide_eq_true (Nat.le_trans b hn)

/-! ### operators by values -/
abbrev D2 := D → D → Sto → R D
def rD (U : Wd) (g : D2) (W : WX) (σ : L2.St) : R2 := fun x y H Q => ∃ G S a b, RelS U G S H ∧ DV U G H a x ∧ DV U G H b y ∧ GoD U W σ G H (g a b S) Q
def OpD (X : Cx) (f : Value → Value → Sem Value) (g : D2) : Prop := ∀ W σ, OpR X f (rD (wd X) g W σ)
section
variable {X : Cx} {pos : Pos} {k : Nat}
theorem Room.u65 {A : Around} (hr : Room k A) : A.units + 65 < cLine := by have := hr.un; omega
theorem Room.u64 {A : Around} (hr : Room k A) : A.units + 64 < cLine := by have := hr.un; omega
theorem Room.u1 {A : Around} (hr : Room k A) : A.units + 1 < cLine := by have := hr.un; omega
def oEq : D2 := fun a b S => match a, b with
  | .int i, .int j => .ok (.bl (decide (i = j))) S
  | .str x, .str y => .ok (.bl (decide (x = y))) S
  | a, b => if shp 60 (rd S a) = true ∧ shp 60 (rd S b) = true then .ok (.bl (eqv (rd S a) (rd S b))) S else .bad
def oNe : D2 := fun a b S => match a, b with
  | .int i, .int j => .ok (.bl (!decide (i = j))) S
  | .str x, .str y => .ok (.bl (!decide (x = y))) S
  | a, b => if shp 60 (rd S a) = true ∧ shp 60 (rd S b) = true then .ok (.bl (!eqv (rd S a) (rd S b))) S else .bad
theorem dec_strL {x y : List Nat} : decide (V.str ⟨x.toArray⟩ = V.str ⟨y.toArray⟩) = decide (x = y) := by
  rw [decide_eq_decide]
  exact ⟨fun e => by injection e with e; injection e with e; simpa using congrArg Array.toList e, fun e => by rw [e]⟩
theorem dec_intL {x y : Int} : decide (V.int x = V.int y) = decide (x = y) := by
  rw [decide_eq_decide]
  exact ⟨fun e => by injection e, fun e => by rw [e]⟩
theorem od_eq (hr : Room k X.A) : OpD X (compareOp .Eq) oEq := fun W σ => OpR.imp (OpR.or (op_eqD (Room.u64 hr)) op_eq) fun x y H Q ⟨G, S, a, b, rs, qa, qb, g⟩ => by
  unfold oEq at g
  split at g
  · rename_i i j
    have qa : x = _ := qa
    have qb : y = _ := qb
    subst qa qb
    exact .inr ⟨rfl, by rw [dec_intL]; exact Go.ret g rs rfl⟩
  · rename_i u v
    have qa : x = _ := qa
    have qb : y = _ := qb
    subst qa qb
    exact .inr ⟨rfl, by rw [dec_strL]; exact Go.ret g rs rfl⟩
  · split at g
    · rename_i h
      refine .inl ⟨_, _, qa.dpr rs h.1, qb.dpr rs h.2, shaped_of h.1 (by decide), shaped_of h.2 (by decide), ?_⟩
      rw [eqv_py]
      exact Go.ret g rs rfl
    · exact g.elim
theorem od_ne (hr : Room k X.A) : OpD X (compareOp .NotEq) oNe := fun W σ => OpR.imp (OpR.or (op_neD (Room.u64 hr)) op_ne) fun x y H Q ⟨G, S, a, b, rs, qa, qb, g⟩ => by
  unfold oNe at g
  split at g
  · rename_i i j
    have qa : x = _ := qa
    have qb : y = _ := qb
    subst qa qb
    exact .inr ⟨rfl, by rw [dec_intL]; exact Go.ret g rs rfl⟩
  · rename_i u v
    have qa : x = _ := qa
    have qb : y = _ := qb
    subst qa qb
    exact .inr ⟨rfl, by rw [dec_strL]; exact Go.ret g rs rfl⟩
  · split at g
    · rename_i h
      refine .inl ⟨_, _, qa.dpr rs h.1, qb.dpr rs h.2, shaped_of h.1 (by decide), shaped_of h.2 (by decide), ?_⟩
      rw [eqv_py]
      exact Go.ret g rs rfl
    · exact g.elim

def isN : D → Bool
  | .non => true
  | _ => false
theorem isN_V {U : Wd} {G : Gh} {H : Hp} {a : D} {x : V} (qa : DV U G H a x) : decide (x = .non) = isN a := by
  cases a with
  | non => cases (show _ = _ from qa); rfl
  | bl b => cases (show _ = _ from qa); rfl
  | int i => cases (show _ = _ from qa); rfl
  | str s => cases (show _ = _ from qa); rfl
  | tup ds => obtain ⟨_, _, rfl, _⟩ := qa; rfl
  | lst ds => obtain ⟨_, _, rfl, _⟩ := qa; rfl
  | dct ks zs => obtain ⟨_, _, rfl, _⟩ := qa; rfl
  | dcn ks zs => obtain ⟨_, _, rfl, _⟩ := qa; rfl
  | ref n => obtain ⟨_, rfl⟩ := qa; rfl
  | arg ns => obtain ⟨_, rfl, _⟩ := qa; rfl
/-- is, of None and of truths -/
def oIs : D2 := fun a b S => match b with
  | .non => .ok (.bl (isN a)) S
  | .bl c => (match a with
    | .bl d => .ok (.bl (d == c)) S
    | _ => .bad)
  | _ => .bad
def oIsNot : D2 := fun a b S => match b with
  | .non => .ok (.bl (!isN a)) S
  | .bl c => (match a with
    | .bl d => .ok (.bl (!(d == c))) S
    | _ => .bad)
  | _ => .bad
theorem od_is : OpD X (compareOp .Is) oIs := fun W σ => OpR.imp (OpR.or op_isN op_is_bl) fun x y H Q ⟨G, S, a, b, rs, qa, qb, g⟩ => by
  cases b with
  | non => exact .inl ⟨qb, by rw [isN_V qa]; exact Go.ret g rs rfl⟩
  | bl c =>
    cases a with
    | bl d =>
      refine .inr ⟨d, c, qa, qb, ?_⟩
      have e : decide (d = c) = (d == c) := by cases d <;> cases c <;> rfl
      rw [e]; exact Go.ret g rs rfl
    | _ => exact g.elim
  | _ => exact g.elim
theorem od_isNot : OpD X (compareOp .IsNot) oIsNot := fun W σ => OpR.imp (OpR.or op_notN op_isnot_bl) fun x y H Q ⟨G, S, a, b, rs, qa, qb, g⟩ => by
  cases b with
  | non => exact .inl ⟨qb, by rw [isN_V qa]; exact Go.ret g rs rfl⟩
  | bl c =>
    cases a with
    | bl d =>
      refine .inr ⟨d, c, qa, qb, ?_⟩
      have e : decide (d = c) = (d == c) := by cases d <;> cases c <;> rfl
      rw [e]; exact Go.ret g rs rfl
    | _ => exact g.elim
  | _ => exact g.elim

/-! ### order -/
def cmpI (a b : Int) : Ordering := if a < b then .lt else if b < a then .gt else .eq
def cmpS : List Nat → List Nat → Ordering
  | [], [] => .eq
  | [], _ :: _ => .lt
  | _ :: _, [] => .gt
  | x :: xs, y :: ys => if Nat.blt x y = true then .lt else if Nat.blt y x = true then .gt else cmpS xs ys
mutual
def cmpv : Nat → D → D → Option Ordering
  | _, .int i, .int j => some (cmpI i j)
  | _, .str x, .str y => some (cmpS x y)
  | n + 1, .tup xs, .tup ys => cmpvs n xs ys
  | _, _, _ => none
def cmpvs : Nat → List D → List D → Option Ordering
  | _, [], [] => some .eq
  | _, [], _ :: _ => some .lt
  | _, _ :: _, [] => some .gt
  | n, x :: xs, y :: ys => if eqv x y = true then cmpvs n xs ys else if allc n xs ys = true then cmpv n x y else none
def allc : Nat → List D → List D → Bool
  | n, x :: xs, y :: ys => (eqv x y || (cmpv n x y).isSome) && allc n xs ys
  | _, _, _ => true
end
def opz : CmpOp → Ordering → Bool
  | .Lt, .lt => true
  | .Gt, .gt => true
  | .LtE, .lt => true
  | .LtE, .eq => true
  | .GtE, .gt => true
  | .GtE, .eq => true
  | _, _ => false
theorem cmpS_lt : ∀ x y : List Nat, decide (x < y) = (cmpS x y == .lt)
  | [], [] => by simp [cmpS]
  | [], y :: ys => by simp [cmpS]
  | x :: xs, [] => by simp [cmpS]
  | x :: xs, y :: ys => by
    have ih := cmpS_lt xs ys
    unfold cmpS
    have e : decide (x :: xs < y :: ys) = decide (x < y ∨ x = y ∧ xs < ys) := by
      rw [decide_eq_decide]; exact List.cons_lt_cons_iff
    rw [e]
    by_cases h1 : x < y
    · have : Nat.blt x y = true := Nat.ble_eq_true_of_le h1
      rw [if_pos this]; simp [h1]
    · have b1 : ¬ Nat.blt x y = true := fun z => h1 (Nat.le_of_ble_eq_true z)
      rw [if_neg b1]
      by_cases h2 : y < x
      · have : Nat.blt y x = true := Nat.ble_eq_true_of_le h2
        rw [if_pos this]
        have : ¬ (x < y ∨ x = y ∧ xs < ys) := by omega
        rw [decide_eq_false this]; rfl
      · have b2 : ¬ Nat.blt y x = true := fun z => h2 (Nat.le_of_ble_eq_true z)
        rw [if_neg b2]
        have exy : x = y := by omega
        subst exy
        rw [← ih]
        simp
theorem cmpS_swap : ∀ x y : List Nat, cmpS y x = (cmpS x y).swap
  | [], [] => rfl
  | [], _ :: _ => rfl
  | _ :: _, [] => rfl
  | x :: xs, y :: ys => by
    unfold cmpS
    by_cases h1 : Nat.blt x y = true
    · have h2 : ¬ Nat.blt y x = true := fun z => by
        have a := Nat.le_of_ble_eq_true h1; have b := Nat.le_of_ble_eq_true z; omega
      rw [if_pos h1, if_neg h2, if_pos h1]; rfl
    · by_cases h2 : Nat.blt y x = true
      · rw [if_pos h2, if_neg h1, if_pos h2]; rfl
      · rw [if_neg h2, if_neg h1, if_neg h1, if_neg h2, cmpS_swap xs ys]
theorem rc_int {op : CmpOp} (ho : op = .Lt ∨ op = .LtE ∨ op = .Gt ∨ op = .GtE) {A : Around} {s : Shared} (a b : Int) (t u : Tok) : Ob.RcOp op A s (.int a t) (.int b u) (opz op (cmpI a b)) := by
  have key : ∀ (c : Bool), c = opz op (cmpI a b) → Ob.RcOp op A s (.int a t) (.int b u) c → Ob.RcOp op A s (.int a t) (.int b u) (opz op (cmpI a b)) := fun c e h => by rw [← e]; exact h
  unfold cmpI at *
  rcases ho with rfl | rfl | rfl | rfl
  · exact key _ (by by_cases h1 : a < b <;> by_cases h2 : b < a <;> simp [h1, h2, opz]) (Ob.RcOp.lt_int a b t u)
  · exact key _ (by by_cases h1 : a < b <;> by_cases h2 : b < a <;> simp [h1, h2, opz] <;> omega) (Ob.RcOp.le_int a b t u)
  · exact key _ (by by_cases h1 : a < b <;> by_cases h2 : b < a <;> simp [h1, h2, opz] <;> omega) (Ob.RcOp.gt_int a b t u)
  · exact key _ (by by_cases h1 : a < b <;> by_cases h2 : b < a <;> simp [h1, h2, opz] <;> omega) (Ob.RcOp.ge_int a b t u)
theorem rc_str {op : CmpOp} (ho : op = .Lt ∨ op = .LtE ∨ op = .Gt ∨ op = .GtE) {A : Around} {s : Shared} (x y : List Nat) (t u : Tok) : Ob.RcOp op A s (.str ⟨x.toArray⟩ t) (.str ⟨y.toArray⟩ u) (opz op (cmpS x y)) := by
  intro prog w E Q h
  have e1 := cmpS_lt x y
  have e2 := cmpS_lt y x
  rw [cmpS_swap x y] at e2
  have go : ∀ (c : Bool), c = opz op (cmpS x y) → Q (.bool c) s := fun c e => by rw [e]; exact h
  rcases ho with rfl | rfl | rfl | rfl
  · exact PyProof.Rows.lt_str (x := ⟨x.toArray⟩) (y := ⟨y.toArray⟩) (go _ (by show decide (x < y) = _; rw [e1]; cases cmpS x y <;> rfl))
  · exact PySem.P.le_str (x := ⟨x.toArray⟩) (y := ⟨y.toArray⟩) (go _ (by show (!decide (y < x)) = _; rw [e2]; cases cmpS x y <;> rfl))
  · exact PySem.P.gt_str (x := ⟨x.toArray⟩) (y := ⟨y.toArray⟩) (go _ (by show decide (y < x) = _; rw [e2]; cases cmpS x y <;> rfl))
  · exact PySem.P.ge_str (x := ⟨x.toArray⟩) (y := ⟨y.toArray⟩) (go _ (by show (!decide (x < y)) = _; rw [e1]; cases cmpS x y <;> rfl))
end
end Z

/-! Z3b: order by both layers. -/
namespace Z
open PySem PySem.Spec PyProof.Rows L2
section
variable {X : Cx} {pos : Pos} {k : Nat}
/-- a value, read at both layers -/
theorem DV.eqAt {pins : List (Addr × Obj)} {σ : L2.St} {H : Hp} {s : Shared} {G : Gh} {a b : D} {x y : V} {u v : Value} {n : Nat} {A : Around} (I : Inv X pins σ H s) (ha : shp n a = true) (hb : shp n b = true) (qa : DV (wd X) G H a x) (qb : DV (wd X) G H b y)
    (ru : RelV x u) (rv : RelV y v) (hu : A.units + n < cLine) : SeqAt.EqAt A s u v (eqv a b) := by
  obtain ⟨as, r1⟩ := Dp.reads I _ x u (qa.dp ha) ru
  obtain ⟨bs, r2⟩ := Dp.reads I _ y v (qb.dp hb) rv
  obtain ⟨c1, d1⟩ := shp_ok n a ha
  obtain ⟨c2, d2⟩ := shp_ok n b hb
  rw [← eqv_py]
  exact SeqAt.eqAt_reads _ _ A s u v as bs r1 r2 c1 c2 (by have := Nat.min_le_left (toPy a).depth (toPy b).depth; omega)
theorem shps_at {n : Nat} : ∀ {ds : List D} {j : Nat} {d : D}, shps (n + 1) ds = true → ds[j]? = some d → shp n d = true
  | [], _, _, _, h => by simp at h
  | e :: ds, 0, d, h, hj => by
    have h : (shp n e && shps (n + 1) ds) = true := by simpa [shps] using h
    simp at hj; subst hj
    exact (Bool.and_eq_true_iff.mp h).1
  | e :: ds, j + 1, d, h, hj => by
    have h : (shp n e && shps (n + 1) ds) = true := by simpa [shps] using h
    exact shps_at (ds := ds) (Bool.and_eq_true_iff.mp h).2 (by simpa using hj)
theorem DVs.at {U : Wd} {G : Gh} {H : Hp} : ∀ {ds : List D} {vs : List V} {j : Nat} {d : D}, DVs U G H ds vs → ds[j]? = some d → ∃ v, vs[j]? = some v ∧ DV U G H d v
  | [], _, _, _, _, h => by simp at h
  | e :: ds, _, 0, d, ⟨v, r, e1, h1, h2⟩, hj => by subst e1; simp at hj; subst hj; exact ⟨v, rfl, h1⟩
  | e :: ds, _, j + 1, d, ⟨v, r, e1, h1, h2⟩, hj => by
    subst e1
    obtain ⟨w, a, b⟩ := DVs.at (ds := ds) (j := j) (d := d) h2 (by simpa using hj)
    exact ⟨w, by simpa using a, b⟩
theorem lex_cmp {n : Nat} {op : CmpOp} (ho : op = .Lt ∨ op = .LtE ∨ op = .Gt ∨ op = .GtE) (X0 Y0 : List D) (z : Bool) (hz : ∀ o : Ordering, (X0.length < Y0.length → o = .lt) → (X0.length = Y0.length → o = .eq) → (Y0.length < X0.length → o = .gt) → z = opz op o) :
    ∀ (xs ys : List D) (i : Nat) (o : Ordering), X0.drop i = xs → Y0.drop i = ys → i ≤ X0.length → i ≤ Y0.length → cmpvs n xs ys = some o →
      Ob.lexAt (fun j => eqv (X0.getD j .non) (Y0.getD j .non)) (fun j => opz op ((cmpv n (X0.getD j .non) (Y0.getD j .non)).getD .eq)) z i (min xs.length ys.length) = opz op o
  | [], [], i, o, hx, hy, lx, ly, h => by
    have a := List.drop_eq_nil_iff.mp hx
    have b := List.drop_eq_nil_iff.mp hy
    have h : some Ordering.eq = some o := by simpa [cmpvs] using h
    cases h
    show z = _
    exact hz .eq (fun q => by omega) (fun _ => rfl) (fun q => by omega)
  | [], y :: ys, i, o, hx, hy, lx, ly, h => by
    have a := List.drop_eq_nil_iff.mp hx
    have b : i < Y0.length := by
      rcases Nat.lt_or_ge i Y0.length with q | q
      · exact q
      · rw [List.drop_of_length_le q] at hy; cases hy
    have h : some Ordering.lt = some o := by simpa [cmpvs] using h
    cases h
    show z = _
    exact hz .lt (fun _ => rfl) (fun q => by omega) (fun q => by omega)
  | x :: xs, [], i, o, hx, hy, lx, ly, h => by
    have a := List.drop_eq_nil_iff.mp hy
    have b : i < X0.length := by
      rcases Nat.lt_or_ge i X0.length with q | q
      · exact q
      · rw [List.drop_of_length_le q] at hx; cases hx
    have h : some Ordering.gt = some o := by simpa [cmpvs] using h
    cases h
    show z = _
    exact hz .gt (fun q => by omega) (fun q => by omega) (fun _ => rfl)
  | x :: xs, y :: ys, i, o, hx, hy, lx, ly, h => by
    have bx : i < X0.length := by
      rcases Nat.lt_or_ge i X0.length with q | q
      · exact q
      · rw [List.drop_of_length_le q] at hx; cases hx
    have b : i < Y0.length := by
      rcases Nat.lt_or_ge i Y0.length with q | q
      · exact q
      · rw [List.drop_of_length_le q] at hy; cases hy
    rw [List.drop_eq_getElem_cons bx] at hx
    rw [List.drop_eq_getElem_cons b] at hy
    injection hx with hx1 hx2
    injection hy with hy1 hy2
    have gx : X0.getD i .non = x := by simp [bx, hx1]
    have gy : Y0.getD i .non = y := by simp [b, hy1]
    rw [show min (x :: xs).length (y :: ys).length = min xs.length ys.length + 1 by simp, Ob.lexAt_succ]
    rw [gx, gy]
    by_cases e : eqv x y = true
    · rw [if_pos e]
      have h : cmpvs n xs ys = some o := by rw [cmpvs, if_pos e] at h; exact h
      exact lex_cmp ho X0 Y0 z hz xs ys (i + 1) o hx2 hy2 bx b h
    · rw [if_neg e]
      rw [cmpvs, if_neg e] at h
      by_cases c : allc n xs ys = true
      · rw [if_pos c] at h; rw [h]; rfl
      · rw [if_neg c] at h; cases h
theorem allc_at {n : Nat} : ∀ {xs ys : List D} {o : Ordering}, cmpvs n xs ys = some o → ∀ (j : Nat) x y, xs[j]? = some x → ys[j]? = some y → eqv x y = true ∨ (cmpv n x y).isSome = true
  | [], _, _, _, j, x, y, hx, _ => by simp at hx
  | _ :: _, [], _, _, j, x, y, _, hy => by simp at hy
  | x0 :: xs, y0 :: ys, o, h, j, x, y, hx, hy => by
    have all : ∀ {xs ys : List D}, allc n xs ys = true → ∀ (j : Nat) x y, xs[j]? = some x → ys[j]? = some y → eqv x y = true ∨ (cmpv n x y).isSome = true := by
      intro xs
      induction xs with
      | nil => intro ys _ j x y hx; simp at hx
      | cons a as ih =>
        intro ys hc j x y hx hy
        cases ys with
        | nil => simp at hy
        | cons b bs =>
          have hc : ((eqv a b || (cmpv n a b).isSome) && allc n as bs) = true := by simpa [allc] using hc
          obtain ⟨h1, h2⟩ := Bool.and_eq_true_iff.mp hc
          cases j with
          | zero => simp at hx hy; subst hx hy; exact Bool.or_eq_true_iff.mp h1
          | succ j => exact ih h2 j x y (by simpa using hx) (by simpa using hy)
    by_cases e : eqv x0 y0 = true
    · rw [cmpvs, if_pos e] at h
      cases j with
      | zero => simp at hx hy; subst hx hy; exact .inl e
      | succ j => exact allc_at h j x y (by simpa using hx) (by simpa using hy)
    · rw [cmpvs, if_neg e] at h
      by_cases c : allc n xs ys = true
      · rw [if_pos c] at h
        cases j with
        | zero => simp at hx hy; subst hx hy; exact .inr (by rw [h]; rfl)
        | succ j => exact all c j x y (by simpa using hx) (by simpa using hy)
      · rw [if_neg c] at h; cases h
theorem cmpv_tup {n : Nat} {a b : D} {o : Ordering} (h : cmpv n a b = some o) : (∃ i j, a = .int i ∧ b = .int j ∧ o = cmpI i j) ∨ (∃ x y, a = .str x ∧ b = .str y ∧ o = cmpS x y) ∨ ∃ m xs ys, n = m + 1 ∧ a = .tup xs ∧ b = .tup ys ∧ cmpvs m xs ys = some o := by
  unfold cmpv at h
  split at h
  · exact .inl ⟨_, _, rfl, rfl, (Option.some.inj h).symm⟩
  · exact .inr (.inl ⟨_, _, rfl, rfl, (Option.some.inj h).symm⟩)
  · exact .inr (.inr ⟨_, _, _, rfl, rfl, rfl, h⟩)
  · cases h
def RcC (X : Cx) (s : Shared) (G : Gh) (H : Hp) (op : CmpOp) (n : Nat) : Prop := ∀ (a b : D) (o : Ordering) (x y : V) (u v : Value) (A : Around), cmpv n a b = some o → shp n a = true → shp n b = true → DV (wd X) G H a x → DV (wd X) G H b y → RelV x u → RelV y v → A.units + n < cLine → Ob.RcOp op A s u v (opz op o)
theorem rc_step {pins : List (Addr × Obj)} {σ : L2.St} {H : Hp} {s : Shared} {G : Gh} (I : Inv X pins σ H s) {op : CmpOp} (ho : op = .Lt ∨ op = .LtE ∨ op = .Gt ∨ op = .GtE) {n : Nat} (ih : RcC X s G H op n) {xs ys : List D} {o : Ordering} {x y : V} {u v : Value} {A : Around}
    (h : cmpvs n xs ys = some o) (sa : shps (n + 1) xs = true) (sb : shps (n + 1) ys = true) (qa : DV (wd X) G H (.tup xs) x) (qb : DV (wd X) G H (.tup ys) y) (ru : RelV x u) (rv : RelV y v) (hu : A.units + (n + 1) < cLine) : Ob.RcOp op A s u v (opz op o) := by
    obtain ⟨p, vs, e1, t1, q1⟩ := qa
    obtain ⟨q, ws, e2, t2, q2⟩ := qb
    subst e1 e2
    cases (show u = Value.ref p from ru)
    cases (show v = Value.ref q from rv)
    obtain ⟨its, r1, p1, _⟩ := I.tuple t1.sq
    obtain ⟨its2, r2, p2, _⟩ := I.tuple t2.sq
    have l1 : its.toArray.size = xs.length := by rw [List.size_toArray, ← r1.length, q1.length]
    have l2 : its2.toArray.size = ys.length := by rw [List.size_toArray, ← r2.length, q2.length]
    have at1 : ∀ {ds : List D} {ws : List V} {us : List Value}, DVs (wd X) G H ds ws → Vals ws us → ∀ j (h1 : j < us.toArray.size), ∃ d w, ds[j]? = some d ∧ DV (wd X) G H d w ∧ RelV w us.toArray[j] := fun {ds ws us} q r j h1 => by
      have h2 : j < ds.length := by rw [← q.length, r.length]; simpa using h1
      obtain ⟨w, hw, dw⟩ := q.at (List.getElem?_eq_getElem h2)
      obtain ⟨u, hu, ru⟩ := r.get hw
      refine ⟨_, w, List.getElem?_eq_getElem h2, dw, ?_⟩
      have h1' : j < us.length := by simpa using h1
      have : us[j]? = some us[j] := List.getElem?_eq_getElem h1'
      rw [this] at hu; cases hu
      simpa using ru
    have hA : A.in1.units + n < cLine := by show A.units + 1 + n < cLine; omega
    have he : ∀ j (h1 : j < its.toArray.size) (h2 : j < its2.toArray.size), SeqAt.EqAt A.in1 s its.toArray[j] its2.toArray[j] (eqv (xs.getD j .non) (ys.getD j .non)) := fun j h1 h2 => by
      obtain ⟨d, w, a1, a2, a3⟩ := at1 q1 r1 j h1
      obtain ⟨d', w', b1, b2, b3⟩ := at1 q2 r2 j h2
      rw [show xs.getD j .non = d by simp [a1], show ys.getD j .non = d' by simp [b1]]
      exact DV.eqAt I (shps_at sa a1) (shps_at sb b1) a2 b2 a3 b3 hA
    have hr : ∀ j (h1 : j < its.toArray.size) (h2 : j < its2.toArray.size), eqv (xs.getD j .non) (ys.getD j .non) = false → Ob.RcOp op A.in1 s its.toArray[j] its2.toArray[j] (opz op ((cmpv n (xs.getD j .non) (ys.getD j .non)).getD .eq)) := fun j h1 h2 hne => by
      obtain ⟨d, w, a1, a2, a3⟩ := at1 q1 r1 j h1
      obtain ⟨d', w', b1, b2, b3⟩ := at1 q2 r2 j h2
      rw [show xs.getD j .non = d by simp [a1], show ys.getD j .non = d' by simp [b1]] at hne ⊢
      rcases allc_at h j d d' a1 b1 with z | z
      · rw [hne] at z; cases z
      · obtain ⟨o', ho'⟩ := Option.isSome_iff_exists.mp z
        rw [ho']
        exact ih d d' o' w w' _ _ A.in1 ho' (shps_at sa a1) (shps_at sb b1) a2 b2 a3 b3 hA
    have hu0 : A.units < cLine := by omega
    rcases ho with rfl | rfl | rfl | rfl
    · have R := Ob.RcOp.tuples_lt (A := A) (s := s) p1 p2 hu0 he hr
      rw [l1, l2] at R
      rw [← lex_cmp (n := n) (op := .Lt) (.inl rfl) xs ys (decide (xs.length < ys.length)) (fun o h1 h2 h3 => by
        rcases Nat.lt_trichotomy xs.length ys.length with q | q | q
        · rw [h1 q, decide_eq_true q]; rfl
        · rw [h2 q, decide_eq_false (by omega)]; rfl
        · rw [h3 q, decide_eq_false (by omega)]; rfl) xs ys 0 o rfl rfl (Nat.zero_le _) (Nat.zero_le _) h]
      exact R
    · have R := Ob.RcOp.tuples_le (A := A) (s := s) p1 p2 hu0 he hr
      rw [l1, l2] at R
      rw [← lex_cmp (n := n) (op := .LtE) (.inr (.inl rfl)) xs ys (decide (xs.length ≤ ys.length)) (fun o h1 h2 h3 => by
        rcases Nat.lt_trichotomy xs.length ys.length with q | q | q
        · rw [h1 q, decide_eq_true (by omega)]; rfl
        · rw [h2 q, decide_eq_true (by omega)]; rfl
        · rw [h3 q, decide_eq_false (by omega)]; rfl) xs ys 0 o rfl rfl (Nat.zero_le _) (Nat.zero_le _) h]
      exact R
    · have R := Ob.RcOp.tuples_gt (A := A) (s := s) p1 p2 hu0 he hr
      rw [l1, l2] at R
      rw [← lex_cmp (n := n) (op := .Gt) (.inr (.inr (.inl rfl))) xs ys (decide (ys.length < xs.length)) (fun o h1 h2 h3 => by
        rcases Nat.lt_trichotomy xs.length ys.length with q | q | q
        · rw [h1 q, decide_eq_false (by omega)]; rfl
        · rw [h2 q, decide_eq_false (by omega)]; rfl
        · rw [h3 q, decide_eq_true q]; rfl) xs ys 0 o rfl rfl (Nat.zero_le _) (Nat.zero_le _) h]
      exact R
    · have R := Ob.RcOp.tuples_ge (A := A) (s := s) p1 p2 hu0 he hr
      rw [l1, l2] at R
      rw [← lex_cmp (n := n) (op := .GtE) (.inr (.inr (.inr rfl))) xs ys (decide (ys.length ≤ xs.length)) (fun o h1 h2 h3 => by
        rcases Nat.lt_trichotomy xs.length ys.length with q | q | q
        · rw [h1 q, decide_eq_false (by omega)]; rfl
        · rw [h2 q, decide_eq_true (by omega)]; rfl
        · rw [h3 q, decide_eq_true (by omega)]; rfl) xs ys 0 o rfl rfl (Nat.zero_le _) (Nat.zero_le _) h]
      exact R
theorem rc_cmp {pins : List (Addr × Obj)} {σ : L2.St} {H : Hp} {s : Shared} {G : Gh} (I : Inv X pins σ H s) {op : CmpOp} (ho : op = .Lt ∨ op = .LtE ∨ op = .Gt ∨ op = .GtE) : ∀ n : Nat, RcC X s G H op n := by
  intro n
  induction n with
  | zero =>
    intro a b o x y u v A h sa sb qa qb ru rv hu
    rcases cmpv_tup h with ⟨i, j, rfl, rfl, rfl⟩ | ⟨i, j, rfl, rfl, rfl⟩ | ⟨m, xs, ys, e, _⟩
    · cases (show _ = _ from qa); cases (show _ = _ from qb)
      obtain ⟨t, rfl⟩ := ru
      obtain ⟨t', rfl⟩ := rv
      exact rc_int ho i j t t'
    · cases (show _ = _ from qa); cases (show _ = _ from qb)
      obtain ⟨t, rfl⟩ := ru
      obtain ⟨t', rfl⟩ := rv
      exact rc_str ho i j t t'
    · omega
  | succ n ih =>
    intro a b o x y u v A h sa sb qa qb ru rv hu
    rcases cmpv_tup h with ⟨i, j, rfl, rfl, rfl⟩ | ⟨i, j, rfl, rfl, rfl⟩ | ⟨m, xs, ys, e, rfl, rfl, hc⟩
    · cases (show _ = _ from qa); cases (show _ = _ from qb)
      obtain ⟨t, rfl⟩ := ru
      obtain ⟨t', rfl⟩ := rv
      exact rc_int ho i j t t'
    · cases (show _ = _ from qa); cases (show _ = _ from qb)
      obtain ⟨t, rfl⟩ := ru
      obtain ⟨t', rfl⟩ := rv
      exact rc_str ho i j t t'
    · have e : n = m := by omega
      subst e
      exact rc_step I ho ih hc (by simpa [shp] using sa) (by simpa [shp] using sb) qa qb ru rv hu
/-- <, <=, >, >= -/
def oCmp (op : CmpOp) : D2 := fun a b S => if shp 60 a = true ∧ shp 60 b = true then (match cmpv 60 a b with
  | some o => .ok (.bl (opz op o)) S
  | none => .bad) else .bad
theorem od_cmp (hr : Room k X.A) {op : CmpOp} (ho : op = .Lt ∨ op = .LtE ∨ op = .Gt ∨ op = .GtE) : OpD X (compareOp op) (oCmp op) := fun W σ => by
  intro pins s σ' H x y v u Q I rx ry h
  obtain ⟨G, S, a, b, rs, qa, qb, g⟩ := h
  unfold oCmp at g
  split at g
  · rename_i hs
    split at g
    · rename_i o e
      have z := rc_cmp (G := G) I ho 60 a b o x y v u X.A e hs.1 hs.2 qa qb rx ry (by have := hr.un; omega)
      have q : EP X pins σ' Q (.bool (opz op o)) s := ⟨.bl _, H, I, rfl, Go.ret g rs rfl⟩
      rcases ho with rfl | rfl | rfl | rfl
      · exact z X.prog X.w X.xe _ q
      · exact z X.prog X.w X.xe _ q
      · exact z X.prog X.w X.xe _ q
      · exact z X.prog X.w X.xe _ q
    · exact g.elim
  · exact g.elim
end
end Z

/-! Z4: subscripts, membership, slices, arithmetic; comparisons, tests, choices. -/
namespace Z
open PySem PySem.Spec PyProof.Rows L2

/-! ### dicts read -/
def dfind : List D → List D → D → Option D
  | k' :: ks, z :: zs, k => if eqv k' k = true then some z else dfind ks zs k
  | _, _, _ => none
theorem keyOf_eqv {a b : D} {x y : Key} (ha : keyOf a = some x) (hb : keyOf b = some y) : eqv a b = decide (x = y) := by
  cases a <;> cases b <;> simp only [keyOf, Option.some.injEq] at ha hb <;> first | cases ha; done | cases hb; done | skip
  all_goals try (simp at ha; done)
  all_goals try (simp at hb; done)
  · subst ha hb; simp only [eqv]; rw [decide_eq_decide]; exact ⟨fun e => by rw [e], fun e => Sum.inl.inj e⟩
  · subst ha hb; simp [eqv]
  · subst ha hb; simp [eqv]
  · subst ha hb; simp only [eqv]; rw [decide_eq_decide]
    exact ⟨fun e => by rw [e], fun e => by have := Sum.inr.inj e; injection this with z; simpa using congrArg Array.toList z⟩
theorem keyOf_V {U : Wd} {G : Gh} {H : Hp} {k : D} {kk : Key} {v : V} (h : keyOf k = some kk) (q : DV U G H k v) : v = kV kk := by
  cases k <;> simp only [keyOf, Option.some.injEq] at h <;> first | cases h; done | skip
  · subst h; exact q
  · subst h; exact q
theorem dfind_val {U : Wd} {G : Gh} {H : Hp} {k : D} {kk : Key} (hk : keyOf k = some kk) : ∀ {ks zs : List D} {kvs : List (Key × V)}, ks.map keyOf = kvs.map (fun p => some p.1) → DVs U G H zs (kvs.map (·.2)) →
    (∀ z, dfind ks zs k = some z → ∃ v, valV kvs kk = some v ∧ DV U G H z v) ∧ (dfind ks zs k = none → valV kvs kk = none)
  | [], zs, kvs, h1, h2 => by
    cases kvs with
    | nil => exact ⟨fun z h => by cases zs <;> simp [dfind] at h, fun _ => rfl⟩
    | cons p r => simp at h1
  | k' :: ks, zs, kvs, h1, h2 => by
    cases kvs with
    | nil => simp at h1
    | cons p r =>
      have h1' : keyOf k' = some p.1 ∧ ks.map keyOf = r.map (fun p => some p.1) := by simpa using h1
      cases zs with
      | nil => have : p.2 :: r.map (·.2) = [] := h2; cases this
      | cons z zs =>
        obtain ⟨v, rr, e, q1, q2⟩ := h2
        have e : p.2 :: r.map (·.2) = v :: rr := e
        injection e with e1 e2
        subst e1 e2
        have ih := dfind_val hk h1'.2 q2
        have hq := keyOf_eqv h1'.1 hk
        unfold dfind
        by_cases c : p.1 = kk
        · rw [hq, decide_eq_true c]
          rw [valV_pos c]
          exact ⟨fun z' h => ⟨_, rfl, by cases h; exact q1⟩, fun h => by cases h⟩
        · rw [hq, decide_eq_false c]
          rw [valV_neg c]
          exact ih
/-- the key of a dict's question -/
theorem dct_get {U : Wd} {G : Gh} {H : Hp} {ks zs : List D} {k : D} {kk : Key} {y : V} {a : Addr} {kvs : List (Key × V)} (e : H a = some (.dK kvs)) (h1 : ks.map keyOf = kvs.map (fun p => some p.1)) (h2 : DVs U G H zs (kvs.map (·.2))) (hk : keyOf k = some kk) (qk : DV U G H k y) :
    (∀ z, dfind ks zs k = some z → ∃ v, DGet H a y (some v) ∧ DV U G H z v) ∧ (dfind ks zs k = none → DGet H a y none) := by
  obtain ⟨a1, a2⟩ := dfind_val hk h1 h2
  have ey := keyOf_V hk qk
  subst ey
  refine ⟨fun z hz => ?_, fun hn => ?_⟩
  · obtain ⟨v, hv, q⟩ := a1 z hz
    refine ⟨v, ?_, q⟩
    rw [← hv]; exact DGet.k e
  · rw [← a2 hn]; exact DGet.k e
/-- what a value reads as, where it lies -/
theorem rd_dct {U : Wd} {G : Gh} {S : Sto} {H : Hp} (rs : RelS U G S H) {d : D} {v : V} {ks zs : List D} (h : rd S d = .dct ks zs) (q : DV U G H d v) : ∃ a kvs, v = .ref a ∧ H a = some (.dK kvs) ∧ ks.map keyOf = kvs.map (fun p => some p.1) ∧ DVs U G H zs (kvs.map (·.2)) := by
  cases d with
  | ref n =>
    obtain ⟨hn, rfl⟩ := q
    unfold rd at h
    dsimp only at h
    cases e : S.get n with
    | none => rw [e] at h; cases h
    | some o =>
      rw [e] at h
      cases o with
      | lst ds => cases h
      | dct ks' zs' =>
        cases h
        obtain ⟨kvs, e1, h1, h2⟩ := rs.at_ n _ e
        exact ⟨_, kvs, rfl, e1, h1, h2⟩
      | dcn ks' zs' => cases h
      | bag b => cases h
      | ins c fs => cases h
  | dct ks' zs' =>
    cases h
    obtain ⟨a, kvs, rfl, t, h1, h2⟩ := q
    exact ⟨a, kvs, rfl, t.1, h1, h2⟩
  | _ => cases h
theorem rd_lstR {U : Wd} {G : Gh} {S : Sto} {H : Hp} (rs : RelS U G S H) {d : D} {v : V} {ds : List D} (h : rd S d = .lst ds) (q : DV U G H d v) : ∃ a vs, v = .ref a ∧ Rd H a (.lst vs) ∧ DVs U G H ds vs := by
  cases d with
  | ref n =>
    obtain ⟨hn, rfl⟩ := q
    unfold rd at h
    dsimp only at h
    cases e : S.get n with
    | none => rw [e] at h; cases h
    | some o =>
      rw [e] at h
      cases o with
      | lst ds' =>
        cases h
        obtain ⟨vs, e1, h2⟩ := rs.at_ n _ e
        exact ⟨_, vs, rfl, .inl e1, h2⟩
      | bag b =>
        cases h
        obtain ⟨c, e1, q⟩ := rs.at_ n _ e
        exact ⟨_, _, rfl, .inl e1, bag_vs q⟩
      | dct ks' zs' => cases h
      | dcn ks' zs' => cases h
      | ins c fs => cases h
  | lst ds' =>
    cases h
    obtain ⟨a, vs, rfl, t, h2⟩ := q
    exact ⟨a, vs, rfl, t.1, h2⟩
  | _ => cases h
theorem rd_lst {U : Wd} {G : Gh} {S : Sto} {H : Hp} (rs : RelS U G S H) {d : D} {v : V} {ds : List D} (h : rd S d = .lst ds) (q : DV U G H d v) : ∃ a vs, v = .ref a ∧ SqL U.K H a vs ∧ DVs U G H ds vs :=
  let ⟨a, vs, e, r, q⟩ := rd_lstR rs h q; ⟨a, vs, e, .inl r, q⟩
theorem rd_tup {U : Wd} {G : Gh} {S : Sto} {H : Hp} {d : D} {v : V} {ds : List D} (h : rd S d = .tup ds) (q : DV U G H d v) : ∃ a vs, v = .ref a ∧ SqT U.K H a vs ∧ DVs U G H ds vs := by
  cases d with
  | ref n =>
    unfold rd at h
    dsimp only at h
    cases e : S.get n with
    | none => rw [e] at h; cases h
    | some o => rw [e] at h; cases o <;> cases h
  | tup ds' =>
    cases h
    obtain ⟨a, vs, rfl, t, h2⟩ := q
    exact ⟨a, vs, rfl, t.sq, h2⟩
  | _ => cases h
def isAtom : D → Bool
  | .non | .bl _ | .int _ | .str _ => true
  | _ => false
theorem rd_atom {U : Wd} {G : Gh} {S : Sto} {H : Hp} {d e : D} {v : V} (h : rd S d = e) (he : isAtom e = true) (q : DV U G H d v) : DV U G H e v := by
  cases d with
  | ref n =>
    subst h
    unfold rd at he
    dsimp only at he
    cases z : S.get n with
    | none => rw [z] at he; cases he
    | some o => rw [z] at he; cases o <;> cases he
  | _ => subst h; exact q
theorem DVs.atI {U : Wd} {G : Gh} {H : Hp} {ds : List D} {vs : List V} {i : Int} {d : D} (q : DVs U G H ds vs) (h : atI ds i = some d) : ∃ v, atI vs i = some v ∧ DV U G H d v := by
  unfold L2.atI at h ⊢
  rw [q.length]
  cases e : ixN ds.length i with
  | none => rw [e] at h; cases h
  | some j => rw [e] at h; exact q.at h

section
variable {X : Cx} {pos : Pos} {k : Nat}
/-! ### subscripts -/
def oIx : D2 := fun a i S => match rd S a with
  | .tup ds => (match i with
    | .int k => (match atI ds k with | some d => .ok d S | none => .bad)
    | _ => .bad)
  | .lst ds => (match i with
    | .int k => (match atI ds k with | some d => .ok d S | none => .bad)
    | _ => .bad)
  | .str l => (match i with
    | .int k => if fits l.length = true then (match atI l k with | some c => .ok (.str [c]) S | none => .bad) else .bad
    | _ => .bad)
  | .dct ks zs => (match keyOf i with
    | some _ => (match dfind ks zs i with | some d => .ok d S | none => .bad)
    | none => .bad)
  | _ => .bad
theorem ix_dict (hu : X.A.units + 1 < cLine) : IxR X (fun x y H Q => ∃ a v, x = .ref a ∧ DGet H a y (some v) ∧ Q v H) := by
  intro value slice pins s σ H x y v u Q I rx ry ⟨a, z, ex, g, q⟩ hs
  subst ex
  cases rx
  exact tail_any (dict_typeIs I g) PySem.F.slot_dict_getitem.lookup (d_getItem hu I g ry fun w' s3 I3 rw' => ⟨z, H, I3, rw', q⟩) hs
theorem od_ix (hr : Room k X.A) : ∀ W σ, IxR X (rD (wd X) oIx W σ) := fun W σ => by
  intro value slice pins s σ' H x y v u Q I rx ry ⟨G, S, a, i, rs, qa, qi, g⟩ hs
  unfold oIx at g
  split at g
  · rename_i ds e
    split at g
    · rename_i j
      split at g
      · rename_i d hd
        obtain ⟨p, vs, rfl, t, q⟩ := rd_tup e qa
        obtain ⟨w, hw, dw⟩ := q.atI hd
        cases (show _ = _ from qi)
        exact ix_tup value slice pins s σ' H _ _ v u Q I rx ry ⟨p, vs, j, w, rfl, rfl, t, hw, Go.ret g rs dw⟩ hs
      · exact g.elim
    · exact g.elim
  · rename_i ds e
    split at g
    · rename_i j
      split at g
      · rename_i d hd
        obtain ⟨p, vs, rfl, t, q⟩ := rd_lst rs e qa
        obtain ⟨w, hw, dw⟩ := q.atI hd
        cases (show _ = _ from qi)
        exact ix_list value slice pins s σ' H _ _ v u Q I rx ry ⟨p, vs, j, w, rfl, rfl, t, hw, Go.ret g rs dw⟩ hs
      · exact g.elim
    · exact g.elim
  · rename_i l e
    split at g
    · rename_i j
      split at g
      · rename_i hf
        split at g
        · rename_i c hc
          cases (show _ = _ from rd_atom e rfl qa)
          cases (show _ = _ from qi)
          exact ix_str value slice pins s σ' H _ _ v u Q I rx ry ⟨_, j, c, rfl, rfl, by simpa [Str.length] using fits_le hf, by simpa using hc, Go.ret g rs rfl⟩ hs
        · exact g.elim
      · exact g.elim
    · exact g.elim
  · rename_i ks zs e
    split at g
    · rename_i kk hk
      split at g
      · rename_i d hd
        obtain ⟨p, kvs, rfl, hH, h1, h2⟩ := rd_dct rs e qa
        obtain ⟨w, dg, dw⟩ := (dct_get hH h1 h2 hk qi).1 d hd
        exact ix_dict (Room.u1 hr) value slice pins s σ' H _ _ v u Q I rx ry ⟨p, w, rfl, dg, Go.ret g rs dw⟩ hs
      · exact g.elim
    · exact g.elim
  · exact g.elim
def eOp (g : D2) (m1 m2 : E) : E := fun ρ S => (m1 ρ S).bind fun a S => (m2 ρ S).bind fun b S => g a b S
/-- two values in a row, then what is done with them -/
theorem eOp_reads {U : Wd} {g : D2} {m1 m2 : E} {W : WX} {σ : L2.St} {H : Hp} {Q : VK} (h : tEv U (eOp g m1 m2) W σ H Q) : tEv U m1 W σ H fun x H1 => tEv U m2 W σ H1 fun y H2 => rD U g W σ x y H2 Q := by
  obtain ⟨G, ρ, S, rs, re, h⟩ := h
  obtain ⟨G0, ρ0, S0, a, b, c⟩ := tEv.bind rs re h
  refine ⟨G0, ρ0, S0, a, b, Go.mono c fun v H1 ⟨G1, d, S1, s, rs1, re1, dv, g1⟩ => ?_⟩
  obtain ⟨G0, ρ0, S0, a, b, c⟩ := tEv.bind rs1 re1 g1
  exact ⟨G0, ρ0, S0, a, b, Go.mono c fun w H2 ⟨G2, d2, S2, s2, rs2, re2, dw, g2⟩ => ⟨G2, S2, d, d2, rs2, dv.mono s2, dw, g2⟩⟩
theorem ce_ix (hr : Room k X.A) {a b : Expr} {m1 m2 : E} (ha : CE X a m1) (hb : CE X b m2) (hs : PlainIx b := by exact fun _ _ => rfl) : CE X (.Subscript a b pos) (eOp oIx m1 m2) := fun W tk => ⟨fun pins s σ H Q I h => by
  refine Subscript_ (binT (ha W tk) (hb W tk) I (eOp_reads h) fun v u s2 x y H2 I2 rx ry q => od_ix hr W σ a b pins s2 σ H2 x y v u Q I2 rx ry q (hs _ _))⟩
theorem ce_bin {op : Operator} {g : D2} {a b : Expr} {m1 m2 : E} (ho : OpD X (binaryOp op) g) (ha : CE X a m1) (hb : CE X b m2) : CE X (.BinOp a op b pos) (eOp g m1 m2) := fun W tk => ⟨fun pins s σ H Q I h =>
  wpAny_BinOp (binT (ha W tk) (hb W tk) I (eOp_reads h) fun v u s2 x y H2 I2 rx ry q => ho W σ pins s2 σ H2 x y v u Q I2 rx ry q)⟩
theorem ce_cmp {op : CmpOp} {g : D2} {a b : Expr} {m1 m2 : E} (ho : OpD X (compareOp op) g) (ha : CE X a m1) (hb : CE X b m2) (hm : behindInMarks op b = false := by first | rfl | exact nomark _) : CE X (.Compare a [op] [b] pos) (eOp g m1 m2) := fun W tk => ⟨fun pins s σ H Q I h =>
  wpAny_Compare1 (binT (ha W tk) (hb W tk) I (eOp_reads h) fun v u s2 x y H2 I2 rx ry q => ho W σ pins s2 σ H2 x y v u Q I2 rx ry q) hm⟩
/-- a truth -/
def toB (m : E) : T := fun ρ S => (m ρ S).bind fun a S => match a with
  | .bl b => .ok b S
  | _ => .bad
theorem toB_reads {U : Wd} {m : E} {W : WX} {σ : L2.St} {H : Hp} {Q : Bool → Hp → Prop} (h : tTv U (toB m) W σ H Q) : tEv U m W σ H fun x H1 => ∃ c, x = .bl c ∧ Q c H1 := by
  obtain ⟨G, ρ, S, rs, re, h⟩ := h
  obtain ⟨G0, ρ0, S0, a, b, c⟩ := tEv.bind rs re h
  refine ⟨G0, ρ0, S0, a, b, Go.mono c fun v H1 ⟨G1, d, S1, s, rs1, re1, dv, g1⟩ => ?_⟩
  cases d with
  | bl b => exact ⟨b, dv, Go.ret g1 rs1 rfl⟩
  | _ => exact g1.elim
theorem ct_cmp {op : CmpOp} {g : D2} {a b : Expr} {m1 m2 : E} (ho : OpD X (compareOp op) g) (ha : CE X a m1) (hb : CE X b m2) (hm : behindInMarks op b = false := by first | rfl | exact nomark _) : CT X (.Compare a [op] [b] pos) (toB (eOp g m1 m2)) := fun W tk => ⟨fun pins s σ H Q I h => by
  refine wpAny_isTrue_Compare1 (binT (ha W tk) (hb W tk) I (eOp_reads (toB_reads h)) fun v u s2 x y H2 I2 rx ry q => thn (ho W σ pins s2 σ H2 x y v u _ I2 rx ry q) fun c s3 ⟨x, H1, I1, r1, q1⟩ => ?_) hm
  obtain ⟨d, rfl, q⟩ := q1
  cases r1
  exact wpAny_truthy_bool ⟨H1, I1, q⟩⟩
/-- an expression that gives a truth, as a test -/
theorem ct_val {e : Expr} {m : E} (h : CE X e m) (he : ∀ whole, isTrue e X.env whole = (do let v ← whole; standAt e.pos; holding [v] (truthy v)) := by intro _; rfl) : CT X e (toB m) := fun W tk => PT.imp (pt_val (h W tk) he) fun σ H Q h => toB_reads h
/-! ### and, or, not, a choice -/
def tNt (m : T) : T := fun ρ S => (m ρ S).bind fun b S => .ok (!b) S
def tAn (m1 m2 : T) : T := fun ρ S => (m1 ρ S).bind fun b S => if b = true then m2 ρ S else .ok false S
def tOr_ (m1 m2 : T) : T := fun ρ S => (m1 ρ S).bind fun b S => if b = true then .ok true S else m2 ρ S
theorem ct_not {a : Expr} {m : T} (ha : CT X a m) : CT X (.UnaryOp .Not a pos) (tNt m) := fun W tk => PT.imp (pt_not (ha W tk)) fun σ H Q ⟨G, ρ, S, rs, re, h⟩ => by
  obtain ⟨G0, ρ0, S0, a, b, c⟩ := tTv.bind rs re h
  exact ⟨G0, ρ0, S0, a, b, Go.mono c fun v H1 ⟨G1, S1, s, rs1, re1, g1⟩ => Go.ret g1 rs1 rfl⟩
theorem cw_and1 {a : Expr} {m : T} (ha : CT X a m) : CW X (.BoolOp .And [a] pos) m := fun W tk => pw_and1 (ha W tk)
theorem cw_or1 {a : Expr} {m : T} (ha : CT X a m) : CW X (.BoolOp .Or [a] pos) m := fun W tk => pw_or1 (ha W tk)
theorem ite_reads {U : Wd} {m2 : T} {W : WX} {σ : L2.St} {H : Hp} {Q : Bool → Hp → Prop} {G : Gh} {ρ : Env} {S : Sto} (rs : RelS U G S H) (re : RelE U G ρ σ H) (h : GoB U W σ G H (m2 ρ S) Q) : tTv U m2 W σ H Q := ⟨G, ρ, S, rs, re, h⟩
theorem cw_and {a b : Expr} {rest : List Expr} {m1 m2 : T} (ha : CT X a m1) (hb : CW X (.BoolOp .And (b :: rest) pos) m2) : CW X (.BoolOp .And (a :: b :: rest) pos) (tAn m1 m2) := fun W tk => PW.imp (pw_and (ha W tk) (hb W tk)) fun σ H Q ⟨G, ρ, S, rs, re, h⟩ => by
  obtain ⟨G0, ρ0, S0, a, b, c⟩ := tTv.bind rs re h
  refine ⟨G, ρ, S, rs, re, Go.mono (Go.bind (rel := relB) h) fun v H1 ⟨G1, d, S1, s, rs1, ev, g1⟩ => ?_⟩
  have ev : d = v := ev
  subst ev
  by_cases e : d = true
  · rw [if_pos e] at g1 ⊢; exact ⟨G1, ρ, S1, rs1, re.mono s, g1⟩
  · rw [if_neg e] at g1 ⊢; exact Go.ret g1 rs1 rfl
theorem cw_or {a b : Expr} {rest : List Expr} {m1 m2 : T} (ha : CT X a m1) (hb : CW X (.BoolOp .Or (b :: rest) pos) m2) : CW X (.BoolOp .Or (a :: b :: rest) pos) (tOr_ m1 m2) := fun W tk => PW.imp (pw_or (ha W tk) (hb W tk)) fun σ H Q ⟨G, ρ, S, rs, re, h⟩ => by
  refine ⟨G, ρ, S, rs, re, Go.mono (Go.bind (rel := relB) h) fun v H1 ⟨G1, d, S1, s, rs1, ev, g1⟩ => ?_⟩
  have ev : d = v := ev
  subst ev
  by_cases e : d = true
  · rw [if_pos e] at g1 ⊢; exact Go.ret g1 rs1 rfl
  · rw [if_neg e] at g1 ⊢; exact ⟨G1, ρ, S1, rs1, re.mono s, g1⟩
theorem ct_w {e : Expr} {m : T} (h : CW X e m) : CT X e m := fun W tk => (h W tk).pt
/-! .. as values -/
def eAn (m1 m2 : E) : E := fun ρ S => (m1 ρ S).bind fun a S => match a with
  | .bl b => if b = true then m2 ρ S else .ok (.bl false) S
  | _ => .bad
def eOr (m1 m2 : E) : E := fun ρ S => (m1 ρ S).bind fun a S => match a with
  | .bl b => if b = true then .ok (.bl true) S else m2 ρ S
  | _ => .bad
def eNt (m : E) : E := fun ρ S => (m ρ S).bind fun a S => match a with
  | .bl b => .ok (.bl (!b)) S
  | _ => .bad
theorem ce_one {op} {a : Expr} {m : E} (h : CE X a m) : CE X (.BoolOp op [a] pos) m := fun W tk => pe_one (h W tk)
theorem ce_and {a b : Expr} {rest : List Expr} {m1 m2 : E} (ha : CE X a m1) (hb : CE X (.BoolOp .And (b :: rest) pos) m2) : CE X (.BoolOp .And (a :: b :: rest) pos) (eAn m1 m2) := fun W tk => PE.imp (pe_and (ha W tk) (hb W tk)) fun σ H Q ⟨G, ρ, S, rs, re, h⟩ => by
  refine ⟨G, ρ, S, rs, re, Go.mono (Go.bind (rel := DV (wd X)) h) fun v H1 ⟨G1, d, S1, s, rs1, dv, g1⟩ => ?_⟩
  cases d with
  | bl b =>
    refine ⟨b, dv, ?_⟩
    by_cases e : b = true
    · rw [if_pos e] at ⊢; dsimp only at g1; rw [if_pos e] at g1; exact ⟨G1, ρ, S1, rs1, re.mono s, g1⟩
    · rw [if_neg e] at ⊢; dsimp only at g1; rw [if_neg e] at g1; exact Go.ret g1 rs1 rfl
  | _ => exact g1.elim
theorem ce_or {a b : Expr} {rest : List Expr} {m1 m2 : E} (ha : CE X a m1) (hb : CE X (.BoolOp .Or (b :: rest) pos) m2) : CE X (.BoolOp .Or (a :: b :: rest) pos) (eOr m1 m2) := fun W tk => PE.imp (pe_or (ha W tk) (hb W tk)) fun σ H Q ⟨G, ρ, S, rs, re, h⟩ => by
  refine ⟨G, ρ, S, rs, re, Go.mono (Go.bind (rel := DV (wd X)) h) fun v H1 ⟨G1, d, S1, s, rs1, dv, g1⟩ => ?_⟩
  cases d with
  | bl b =>
    refine ⟨b, dv, ?_⟩
    by_cases e : b = true
    · rw [if_pos e] at ⊢; dsimp only at g1; rw [if_pos e] at g1; exact Go.ret g1 rs1 rfl
    · rw [if_neg e] at ⊢; dsimp only at g1; rw [if_neg e] at g1; exact ⟨G1, ρ, S1, rs1, re.mono s, g1⟩
  | _ => exact g1.elim
theorem ce_not {a : Expr} {m : E} (ha : CE X a m) : CE X (.UnaryOp .Not a pos) (eNt m) := fun W tk => PE.imp (pe_not (ha W tk)) fun σ H Q ⟨G, ρ, S, rs, re, h⟩ => by
  refine ⟨G, ρ, S, rs, re, Go.mono (Go.bind (rel := DV (wd X)) h) fun v H1 ⟨G1, d, S1, s, rs1, dv, g1⟩ => ?_⟩
  cases d with
  | bl b => exact ⟨b, dv, Go.ret g1 rs1 rfl⟩
  | _ => exact g1.elim
def eIf (t : T) (m1 m2 : E) : E := fun ρ S => (t ρ S).bind fun b S => if b = true then m1 ρ S else m2 ρ S
theorem ce_if {c a b : Expr} {t : T} {m1 m2 : E} (hc : CT X c t) (ha : CE X a m1) (hb : CE X b m2) : CE X (.IfExp c a b pos) (eIf t m1 m2) := fun W tk => PE.imp (pe_ifExp (hc W tk) (ha W tk) (hb W tk)) fun σ H Q ⟨G, ρ, S, rs, re, h⟩ => by
  refine ⟨G, ρ, S, rs, re, Go.mono (Go.bind (rel := relB) h) fun v H1 ⟨G1, d, S1, s, rs1, ev, g1⟩ => ?_⟩
  have ev : d = v := ev
  subst ev
  by_cases e : d = true
  · rw [if_pos e] at g1 ⊢; exact ⟨G1, ρ, S1, rs1, re.mono s, g1⟩
  · rw [if_neg e] at g1 ⊢; exact ⟨G1, ρ, S1, rs1, re.mono s, g1⟩
end
end Z

/-! Z5: arithmetic, membership, slices, chains. -/
namespace Z
open PySem PySem.Spec PyProof.Rows L2
section
variable {X : Cx} {pos : Pos} {k : Nat}
theorem DVs.append {U : Wd} {G : Gh} {H : Hp} : ∀ {ds es : List D} {vs ws : List V}, DVs U G H ds vs → DVs U G H es ws → DVs U G H (ds ++ es) (vs ++ ws)
  | [], _, _, _, h, q => by cases (show _ = _ from h); exact q
  | d :: ds, _, _, _, ⟨v, r, e, h1, h2⟩, q => by subst e; exact ⟨v, r ++ _, rfl, h1, DVs.append h2 q⟩
theorem op_catL : OpR X (binaryOp .Add) (fun x y H Q => ∃ l b xs zs, x = .ref l ∧ y = .ref b ∧ Rd H l (.lst xs) ∧ Rd H b (.lst zs) ∧ xs.length + zs.length ≤ sizeLine ∧ ∀ p, H p = none → Q (.ref p) (upd H p (.lst (xs ++ zs)))) := by
  intro pins s σ H x y v u Q I rx ry h
  obtain ⟨l, b, xs, zs, rfl, rfl, hH, hB, hz, q⟩ := h
  cases rx
  cases ry
  obtain ⟨z, its, n, r, e⟩ := hH.ok I.hok
  obtain ⟨z2, its2, n2, r2, e2⟩ := hB.ok I.hok
  have hl := r.length
  have hl2 := r2.length
  refine PySem.P.add_list e e2 ?_ (by rw [List.size_toArray, List.size_toArray]; omega)
  have ea : its.toArray ++ its2.toArray = (its ++ its2).toArray := by simp
  rw [ea]
  exact ⟨.ref _, _, I.lnew (t' := s.toks) (r.append r2) (by rw [List.length_append]; omega), rfl, q _ I.fresh⟩
def oAdd : D2 := fun a b S => match rd S a, rd S b with
  | .int i, .int j => .ok (.int (i + j)) S
  | .str x, .str y => if fits (x.length + y.length) = true then .ok (.str (x ++ y)) S else .bad
  | .tup ds, .tup es => if fits (ds.length + es.length) = true then .ok (.tup (ds ++ es)) S else .bad
  | .lst ds, .lst es => if fits (ds.length + es.length) = true then .ok (.lst (ds ++ es)) S else .bad
  | _, _ => .bad
theorem str_app (x y : List Nat) : ((⟨x.toArray⟩ : Str) ++ ⟨y.toArray⟩ : Str) = ⟨(x ++ y).toArray⟩ := by
  show (⟨x.toArray ++ y.toArray⟩ : Str) = _
  simp
theorem od_add : OpD X (binaryOp .Add) oAdd := fun W σ => by
  intro pins s σ' H x y v u Q I rx ry ⟨G, S, a, b, rs, qa, qb, g⟩
  unfold oAdd at g
  split at g
  · rename_i i j ea eb
    have qa := rd_atom ea rfl qa
    have qb := rd_atom eb rfl qb
    exact op_add pins s σ' H x y v u Q I rx ry ⟨i, j, qa, qb, Go.ret g rs rfl⟩
  · rename_i i j ea eb
    have qa := rd_atom ea rfl qa
    have qb := rd_atom eb rfl qb
    split at g
    · rename_i hf
      refine op_add_str pins s σ' H x y v u Q I rx ry ⟨_, _, qa, qb, by simpa [Str.length] using fits_le hf, ?_⟩
      rw [str_app]
      exact Go.ret g rs rfl
    · exact g.elim
  · rename_i ds es ea eb
    obtain ⟨p, vs, rfl, t1, q1⟩ := rd_tup ea qa
    obtain ⟨p2, ws, rfl, t2, q2⟩ := rd_tup eb qb
    split at g
    · rename_i hf
      refine op_catA pins s σ' H _ _ v u Q I rx ry ⟨p, p2, vs, ws, rfl, rfl, t1, t2, by rw [q1.length, q2.length]; exact fits_le hf, fun e => ?_, fun e1 e2 => ?_, fun e1 e2 q hq => ?_⟩
      · subst e
        have : ds = [] := by have := q1.length; cases ds with | nil => rfl | cons _ _ => simp at this
        subst this
        have eb' : b = .tup es := by
          cases b with
          | ref n => unfold rd at eb; dsimp only at eb; cases z : S.get n with
            | none => rw [z] at eb; cases eb
            | some o => rw [z] at eb; cases o <;> cases eb
          | _ => exact eb
        subst eb'
        exact Go.ret g rs qb
      · subst e2
        have : es = [] := by have := q2.length; cases es with | nil => rfl | cons _ _ => simp at this
        subst this
        have ea' : a = .tup ds := by
          cases a with
          | ref n => unfold rd at ea; dsimp only at ea; cases z : S.get n with
            | none => rw [z] at ea; cases ea
            | some o => rw [z] at ea; cases o <;> cases ea
          | _ => exact ea
        subst ea'
        rw [List.append_nil] at g
        exact Go.ret g rs qa
      · exact Go.new g rs hq (new_tup rs hq (q1.append q2))
    · exact g.elim
  · rename_i ds es ea eb
    obtain ⟨p, vs, rfl, t1, q1⟩ := rd_lstR rs ea qa
    obtain ⟨p2, ws, rfl, t2, q2⟩ := rd_lstR rs eb qb
    split at g
    · rename_i hf
      exact op_catL pins s σ' H _ _ v u Q I rx ry ⟨p, p2, vs, ws, rfl, rfl, t1, t2, by rw [q1.length, q2.length]; exact fits_le hf, fun q hq => Go.new g rs hq (new_lst rs hq (q1.append q2))⟩
    · exact g.elim
  · exact g.elim
def oSub : D2 := fun a b S => match a, b with
  | .int i, .int j => .ok (.int (i - j)) S
  | _, _ => .bad
theorem od_sub : OpD X (binaryOp .Sub) oSub := fun W σ => OpR.imp op_sub fun x y H Q ⟨G, S, a, b, rs, qa, qb, g⟩ => by
  unfold oSub at g
  split at g
  · exact ⟨_, _, qa, qb, Go.ret g rs rfl⟩
  · exact g.elim
/-- below 2^64 -/
def lt64 (i : Int) : Bool := Nat.blt i.natAbs 18446744073709551616
def oMul : D2 := fun a b S => match a, b with
  | .int i, .int j => if (lt64 i || lt64 j) = true then .ok (.int (i * j)) S else .bad
  | _, _ => .bad
theorem lt64_ok {i : Int} (h : lt64 i = true) : -(2 ^ 64) < i ∧ i < 2 ^ 64 := by
  have := Nat.le_of_ble_eq_true h
  omega
theorem od_mul : OpD X (binaryOp .Mult) oMul := fun W σ => OpR.imp op_mul fun x y H Q ⟨G, S, a, b, rs, qa, qb, g⟩ => by
  unfold oMul at g
  split at g
  · split at g
    · rename_i h
      exact ⟨_, _, qa, qb, (Bool.or_eq_true_iff.mp h).elim (fun z => .inl (lt64_ok z)) fun z => .inr (lt64_ok z), Go.ret g rs rfl⟩
    · exact g.elim
  · exact g.elim
/-- the divisor positive, below 2^30 -/
def divOk (j : Int) : Bool := decide (0 < j) && Nat.blt j.natAbs 1073741824
def oDiv : D2 := fun a b S => match a, b with
  | .int i, .int j => if divOk j = true then .ok (.int (i / j)) S else .bad
  | _, _ => .bad
def oMod : D2 := fun a b S => match a, b with
  | .int i, .int j => if decide (0 < j) = true then .ok (.int (i % j)) S else .bad
  | _, _ => .bad
theorem od_div : OpD X (binaryOp .FloorDiv) oDiv := fun W σ => OpR.imp op_fdiv fun x y H Q ⟨G, S, a, b, rs, qa, qb, g⟩ => by
  unfold oDiv at g
  split at g
  · split at g
    · rename_i h
      obtain ⟨h1, h2⟩ := Bool.and_eq_true_iff.mp h
      have h1 := of_decide_eq_true h1
      have h2 := Nat.le_of_ble_eq_true h2
      exact ⟨_, _, qa, qb, ⟨h1, by omega⟩, Go.ret g rs rfl⟩
    · exact g.elim
  · exact g.elim
theorem od_mod : OpD X (binaryOp .Mod) oMod := fun W σ => OpR.imp op_mod fun x y H Q ⟨G, S, a, b, rs, qa, qb, g⟩ => by
  unfold oMod at g
  split at g
  · split at g
    · rename_i h
      exact ⟨_, _, qa, qb, of_decide_eq_true h, Go.ret g rs rfl⟩
    · exact g.elim
  · exact g.elim
def oPow : D2 := fun a b S => match a, b with
  | .int i, .int j => if (decide (0 ≤ j) && decide (j ≤ 1000) && lt64 i) = true then .ok (.int (i ^ j.toNat)) S else .bad
  | _, _ => .bad
theorem od_pow : OpD X (binaryOp .Pow) oPow := fun W σ => OpR.imp op_pow fun x y H Q ⟨G, S, a, b, rs, qa, qb, g⟩ => by
  unfold oPow at g
  split at g
  · split at g
    · rename_i h
      obtain ⟨h12, h3⟩ := Bool.and_eq_true_iff.mp h
      obtain ⟨h1, h2⟩ := Bool.and_eq_true_iff.mp h12
      have h1 := of_decide_eq_true h1
      have h2 := of_decide_eq_true h2
      have h3 := Nat.le_of_ble_eq_true h3
      exact ⟨_, _, qa, qb, ⟨h1, by omega, by omega⟩, Go.ret g rs rfl⟩
    · exact g.elim
  · exact g.elim
/-! ### in -/
def inD (a b : D) (S : Sto) : Option Bool := match rd S b with
  | .tup ds => if shp 60 (rd S a) = true ∧ shp 60 (.tup ds) = true then some (ds.any fun z => eqv z (rd S a)) else none
  | .lst ds => if shp 60 (rd S a) = true ∧ shp 60 (.lst ds) = true then some (ds.any fun z => eqv z (rd S a)) else none
  | .str l => (match a with
    | .str [c] => some (l.elem c)
    | _ => none)
  | .dct ks zs => (match keyOf a with
    | some _ => some (dfind ks zs a).isSome
    | none => none)
  | _ => none
def oIn : D2 := fun a b S => match inD a b S with
  | some r => .ok (.bl r) S
  | none => .bad
def oNotIn : D2 := fun a b S => match inD a b S with
  | some r => .ok (.bl (!r)) S
  | none => .bad
theorem any_py (d : D) : ∀ ds : List D, ((toPys ds).any fun z => PyData.eqv z (toPy d)) = ds.any fun z => eqv z d
  | [] => rfl
  | e :: ds => by simp only [toPys, List.any_cons]; rw [eqv_py, any_py d ds]
theorem elem_dec (c : Nat) (l : List Nat) : l.elem c = decide (c ∈ l) := by
  rw [Bool.eq_iff_iff]; simp
/-- x in c, whatever c is, gives b -/
theorem in_ok (hr : Room k X.A) {neg : Bool} {pins : List (Addr × Obj)} {s : Shared} {σ : L2.St} {H : Hp} {x y : V} {v u : Value} {Q : VK} (I : Inv X pins σ H s) (rx : RelV x v) (ry : RelV y u) {G : Gh} {S : Sto} {a b : D} (rs : RelS (wd X) G S H) (qa : DV (wd X) G H a x) (qb : DV (wd X) G H b y)
    {r : Bool} (e : inD a b S = some r) (q : Q (.bl (if neg then !r else r)) H) : wpAny (model X.prog X.w) X.A (compareOp (if neg then .NotIn else .In) v u) (EP X pins σ Q) X.xe s := by
  unfold inD at e
  split at e
  · rename_i ds eb
    split at e
    · rename_i h
      have e := Option.some.inj e
      subst e
      obtain ⟨p, vs, rfl, t, qq⟩ := rd_tup eb qb
      obtain ⟨as, r1⟩ := Dp.reads I _ x v (qa.dpr rs h.1) rx
      obtain ⟨bs, r2⟩ := Dp.reads I (.tuple (toPys ds)) _ u (.tup t (DVs.dp (n := 60) (by simpa [shp] using h.2) qq)) ry
      have s1 := shaped_of h.1 (by decide)
      have s2 := shaped_of h.2 (by decide)
      cases neg with
      | false => exact SeqAt.in_tuple_reads r2 r1 (SeqAt.canLay_of_shaped s2) (SeqAt.canLay_of_shaped s1) (room_in_shaped s1 (Room.u65 hr)) ⟨.bl _, H, I, rfl, by rw [any_py]; exact q⟩
      | true => exact SeqAt.notIn_tuple_reads r2 r1 (SeqAt.canLay_of_shaped s2) (SeqAt.canLay_of_shaped s1) (room_in_shaped s1 (Room.u65 hr)) ⟨.bl _, H, I, rfl, by rw [any_py]; exact q⟩
    · cases e
  · rename_i ds eb
    split at e
    · rename_i h
      have e := Option.some.inj e
      subst e
      obtain ⟨p, vs, rfl, t, qq⟩ := rd_lst rs eb qb
      obtain ⟨as, r1⟩ := Dp.reads I _ x v (qa.dpr rs h.1) rx
      obtain ⟨bs, r2⟩ := Dp.reads I (.list (toPys ds)) _ u (.lst t (DVs.dp (n := 60) (by simpa [shp] using h.2) qq)) ry
      have s1 := shaped_of h.1 (by decide)
      have s2 := shaped_of h.2 (by decide)
      cases neg with
      | false => exact SeqAt.in_list_reads r2 r1 (SeqAt.canLay_of_shaped s2) (SeqAt.canLay_of_shaped s1) (room_in_shaped s1 (Room.u65 hr)) ⟨.bl _, H, I, rfl, by rw [any_py]; exact q⟩
      | true => exact SeqAt.notIn_list_reads r2 r1 (SeqAt.canLay_of_shaped s2) (SeqAt.canLay_of_shaped s1) (room_in_shaped s1 (Room.u65 hr)) ⟨.bl _, H, I, rfl, by rw [any_py]; exact q⟩
    · cases e
  · rename_i l eb
    split at e
    · rename_i c
      have e := Option.some.inj e
      subst e
      have qb := rd_atom eb rfl qb
      have ec : decide (c ∈ (⟨l.toArray⟩ : Str).cps.toList) = l.elem c := by rw [elem_dec]
      cases neg with
      | false => exact op_in_sign pins s σ H x y v u Q I rx ry ⟨c, _, qa, qb, by rw [ec]; exact q⟩
      | true => exact op_notIn_sign pins s σ H x y v u Q I rx ry ⟨c, _, qa, qb, by rw [ec]; exact q⟩
    · cases e
  · rename_i ks zs eb
    split at e
    · rename_i kk hk
      have e := Option.some.inj e
      subst e
      obtain ⟨p, kvs, rfl, hH, h1, h2⟩ := rd_dct rs eb qb
      obtain rfl : u = .ref p := ry
      have g := dct_get hH h1 h2 hk qa
      cases z : dfind ks zs a with
      | none =>
        rw [z] at q
        have g := g.2 z
        cases neg with
        | false => exact d_in (Room.u1 hr) I g rx fun s' I' => ⟨.bl _, H, I', rfl, q⟩
        | true => exact d_notIn (Room.u1 hr) I g rx fun s' I' => ⟨.bl _, H, I', rfl, q⟩
      | some w =>
        rw [z] at q
        obtain ⟨v', g, _⟩ := g.1 w z
        cases neg with
        | false => exact d_in (Room.u1 hr) I g rx fun s' I' => ⟨.bl _, H, I', rfl, q⟩
        | true => exact d_notIn (Room.u1 hr) I g rx fun s' I' => ⟨.bl _, H, I', rfl, q⟩
    · cases e
  · cases e
theorem od_in (hr : Room k X.A) : OpD X (compareOp .In) oIn := fun W σ => by
  intro pins s σ' H x y v u Q I rx ry ⟨G, S, a, b, rs, qa, qb, g⟩
  unfold oIn at g
  split at g
  · rename_i r e
    exact in_ok (neg := false) hr I rx ry rs qa qb e (Go.ret g rs rfl)
  · exact g.elim
theorem od_notIn (hr : Room k X.A) : OpD X (compareOp .NotIn) oNotIn := fun W σ => by
  intro pins s σ' H x y v u Q I rx ry ⟨G, S, a, b, rs, qa, qb, g⟩
  unfold oNotIn at g
  split at g
  · rename_i r e
    exact in_ok (neg := true) hr I rx ry rs qa qb e (Go.ret g rs rfl)
  · exact g.elim
/-! ### unary minus -/
def eNeg (m : E) : E := fun ρ S => (m ρ S).bind fun a S => match a with
  | .int i => .ok (.int (-i)) S
  | _ => .bad
theorem ce_neg {a : Expr} {m : E} (ha : CE X a m) : CE X (.UnaryOp .USub a pos) (eNeg m) := fun W tk => PE.imp (pe_un un_neg (ha W tk)) fun σ H Q ⟨G, ρ, S, rs, re, h⟩ => by
  refine ⟨G, ρ, S, rs, re, Go.mono (Go.bind (rel := DV (wd X)) h) fun v H1 ⟨G1, d, S1, s, rs1, dv, g1⟩ => ?_⟩
  cases d with
  | int i => exact ⟨i, dv, Go.ret g1 rs1 rfl⟩
  | _ => exact g1.elim
/-! ### a < b < c -/
def eChain (g g' : D2) (m1 m2 m3 : E) : E := fun ρ S => (m1 ρ S).bind fun a S => (m2 ρ S).bind fun b S => (g a b S).bind fun r S => match r with
  | .bl k => if k = true then (m3 ρ S).bind fun c S => g' b c S else .ok (.bl false) S
  | _ => .bad
theorem chain_reads {U : Wd} {g g' : D2} {m1 m2 m3 : E} {W : WX} {σ : L2.St} {H : Hp} {Q : VK} (h : tEv U (eChain g g' m1 m2 m3) W σ H Q) :
    tChain (rD U g W σ) (rD U g' W σ) (tEv U m1 W) (tEv U m2 W) (tEv U m3 W) σ H Q := by
  obtain ⟨G, ρ, S, rs, re, h⟩ := h
  obtain ⟨G0, ρ0, S0, a, b, c⟩ := tEv.bind rs re h
  refine ⟨G0, ρ0, S0, a, b, Go.mono c fun v H1 ⟨G1, d, S1, s, rs1, re1, dv, g1⟩ => ?_⟩
  obtain ⟨G0, ρ0, S0, a, b, c⟩ := tEv.bind rs1 re1 g1
  refine ⟨G0, ρ0, S0, a, b, Go.mono c fun w H2 ⟨G2, d2, S2, s2, rs2, re2, dw, g2⟩ => ?_⟩
  refine ⟨G2, S2, d, d2, rs2, dv.mono s2, dw, Go.mono (Go.bind (rel := DV U) g2) fun z H3 ⟨G3, r, S3, s3, rs3, dz, g3⟩ => ?_⟩
  cases r with
  | bl kk =>
    cases (show z = .bl kk from dz)
    by_cases e : kk = true
    · subst e
      dsimp only at g3
      rw [if_pos rfl] at g3
      refine ⟨true, rfl, ?_⟩
      rw [if_pos rfl]
      obtain ⟨G0, ρ0, S0, a, b, c⟩ := tEv.bind rs3 (re2.mono s3) g3
      exact ⟨G0, ρ0, S0, a, b, Go.mono c fun w' H4 ⟨G4, d4, S4, s4, rs4, re4, dw4, g4⟩ => ⟨G4, S4, d2, d4, rs4, (dw.mono s3).mono s4, dw4, g4⟩⟩
    · have e : kk = false := by simpa using e
      subst e
      exact ⟨false, rfl, Go.ret g3 rs3 rfl⟩
  | _ => exact g3.elim
theorem ce_chain {op op' : CmpOp} {g g' : D2} {a b c : Expr} {m1 m2 m3 : E} (ho : OpD X (compareOp op) g) (ho' : OpD X (compareOp op') g') (ha : CE X a m1) (hb : CE X b m2) (hc : CE X c m3)
    (hm : lastMarks [op, op'] [b, c] = false := by with_unfolding_all rfl) : CE X (.Compare a [op, op'] [b, c] pos) (eChain g g' m1 m2 m3) := fun W tk => ⟨fun pins s σ H Q I h =>
  (pe_chain (ho W σ) (ho' W σ) (ha W tk) (hb W tk) (hc W tk) hm).run pins s σ H Q I (chain_reads h)⟩
theorem ct_chain {op op' : CmpOp} {g g' : D2} {a b c : Expr} {m1 m2 m3 : E} (ho : OpD X (compareOp op) g) (ho' : OpD X (compareOp op') g') (ha : CE X a m1) (hb : CE X b m2) (hc : CE X c m3)
    (hm : lastMarks [op, op'] [b, c] = false := by with_unfolding_all rfl) : CT X (.Compare a [op, op'] [b, c] pos) (toB (eChain g g' m1 m2 m3)) := fun W tk => ⟨fun pins s σ H Q I h =>
  (pt_chain (ho W σ) (ho' W σ) (ha W tk) (hb W tk) (hc W tk) hm).run pins s σ H Q I (chain_reads (toB_reads h))⟩
/-! ### slices -/
abbrev PtE := Env → Sto → R (Option Int)
def pNone : PtE := fun _ S => .ok none S
def pSome (m : E) : PtE := fun ρ S => (m ρ S).bind fun a S => match a with
  | .int i => .ok (some i) S
  | _ => .bad
abbrev relO : Gh → Hp → Option Int → Option Int → Prop := fun _ _ a b => a = b
def tOv (U : Wd) (m : PtE) (W : WX) : TO := fun σ H Q => ∃ G ρ S, RelS U G S H ∧ RelE U G ρ σ H ∧ Go (α := Option Int) (α' := Option Int) relO U W σ G H (m ρ S) Q
def CO (X : Cx) (e : Option Expr) (m : PtE) : Prop := ∀ W, Takes X W → PO X e (tOv (wd X) m W)
theorem PO.imp {e : Option Expr} {t t' : TO} (h : PO X e t) (i : ∀ σ H Q, t' σ H Q → t σ H Q) : PO X e t' := ⟨fun p s σ H Q I q => h.run p s σ H Q I (i σ H Q q)⟩
theorem co_none : CO X none pNone := fun W tk => PO.imp po_none fun σ H Q ⟨G, ρ, S, rs, re, h⟩ => Go.ret h rs rfl
theorem co_some {e : Expr} {m : E} (h : CE X e m) : CO X (some e) (pSome m) := fun W tk => PO.imp (po_some (h W tk)) fun σ H Q ⟨G, ρ, S, rs, re, h⟩ => by
  refine ⟨G, ρ, S, rs, re, Go.mono (Go.bind (rel := DV (wd X)) h) fun v H1 ⟨G1, d, S1, s, rs1, dv, g1⟩ => ?_⟩
  cases d with
  | int i => exact ⟨i, dv, Go.ret g1 rs1 rfl⟩
  | _ => exact g1.elim
def cut {α : Type} (xs : List α) (lo hi : Option Int) : List α := (xs.drop (HT.sIx xs.length 0 lo)).take (HT.sIx xs.length xs.length hi - HT.sIx xs.length 0 lo)
def oSl (a : D) (lo hi : Option Int) (S : Sto) : R D := match rd S a with
  | .tup ds => .ok (.tup (cut ds lo hi)) S
  | .lst ds => .ok (.lst (cut ds lo hi)) S
  | .str l => if fits l.length = true then .ok (.str (cut l lo hi)) S else .bad
  | .arg ns => .ok (.lst ((cut ns lo hi).map .int)) S
  | _ => .bad
theorem DVs.take {U : Wd} {G : Gh} {H : Hp} : ∀ {ds : List D} {vs : List V} (n : Nat), DVs U G H ds vs → DVs U G H (ds.take n) (vs.take n)
  | [], _, n, h => by cases (show _ = _ from h); simp [DVs]
  | d :: ds, _, 0, ⟨v, r, e, h1, h2⟩ => by simp [DVs]
  | d :: ds, _, n + 1, ⟨v, r, e, h1, h2⟩ => by subst e; exact ⟨v, r.take n, rfl, h1, DVs.take n h2⟩
theorem DVs.drop {U : Wd} {G : Gh} {H : Hp} : ∀ {ds : List D} {vs : List V} (n : Nat), DVs U G H ds vs → DVs U G H (ds.drop n) (vs.drop n)
  | [], _, n, h => by cases (show _ = _ from h); simp [DVs]
  | d :: ds, _, 0, h => h
  | d :: ds, _, n + 1, ⟨v, r, e, h1, h2⟩ => by subst e; exact DVs.drop n h2
theorem DVs.cut {U : Wd} {G : Gh} {H : Hp} {ds : List D} {vs : List V} {lo hi : Option Int} (q : DVs U G H ds vs) : DVs U G H (cut ds lo hi) (cutV vs lo hi) := by
  unfold Z.cut cutV
  rw [q.length]
  exact (q.drop _).take _
theorem cut_whole {α : Type} {ds : List α} {lo hi : Option Int} (h : HT.sIx ds.length 0 lo = 0 ∧ HT.sIx ds.length ds.length hi = ds.length) : cut ds lo hi = ds := by
  unfold cut
  rw [h.1, h.2]
  simp
def rSl (U : Wd) (W : WX) (σ : L2.St) : V → Option Int → Option Int → Hp → VK → Prop := fun x lo hi H Q => ∃ G S a, RelS U G S H ∧ DV U G H a x ∧ GoD U W σ G H (oSl a lo hi S) Q
theorem sl_any (W : WX) (σ : L2.St) : SlR X (rSl (wd X) W σ) := by
  intro pins s σ' H x v vl vu lo hi sl Q I rx hs pl pu ⟨G, S, a, rs, qa, g⟩
  unfold oSl at g
  split at g
  · rename_i ds e
    obtain ⟨p, vs, rfl, t, q⟩ := rd_tup e qa
    refine sl_tupA pins s σ' H _ v vl vu lo hi sl Q I rx hs pl pu ⟨p, vs, rfl, t, fun hw => ?_, fun hw q' hq => Go.new g rs hq (new_tup rs hq q.cut)⟩
    rw [q.length] at hw
    rw [cut_whole hw] at g
    refine Go.ret g rs ?_
    have ea : a = .tup ds := by
      cases a with
      | ref n => unfold rd at e; dsimp only at e; cases z : S.get n with
        | none => rw [z] at e; cases e
        | some o => rw [z] at e; cases o <;> cases e
      | _ => exact e
    subst ea
    exact qa
  · rename_i ds e
    obtain ⟨p, vs, rfl, t, q⟩ := rd_lst rs e qa
    exact sl_list pins s σ' H _ v vl vu lo hi sl Q I rx hs pl pu ⟨p, vs, rfl, t, fun q' hq => Go.new g rs hq (new_lst rs hq q.cut)⟩
  · rename_i l e
    split at g
    · rename_i hf
      cases (show _ = _ from rd_atom e rfl qa)
      refine sl_str pins s σ' H _ v vl vu lo hi sl Q I rx hs pl pu ⟨_, rfl, by simpa [Str.length] using fits_le hf, ?_⟩
      refine Go.ret g rs ?_
      show V.str _ = V.str _
      simp [cutS, Z.cut, Str.length]
    · exact g.elim
  · rename_i ns e
    have ea : a = .arg ns := by
      cases a with
      | ref n => unfold rd at e; dsimp only at e; cases z : S.get n with
        | none => rw [z] at e; cases e
        | some o => rw [z] at e; cases o <;> cases e
      | _ => exact e
    subst ea
    obtain ⟨p, rfl, t⟩ := qa
    refine sl_list pins s σ' H _ v vl vu lo hi sl Q I rx hs pl pu ⟨p, _, rfl, t.sq, fun q' hq => Go.new g rs hq (new_lst rs hq ?_)⟩
    have e2 : cutV (ns.map V.int) lo hi = (Z.cut ns lo hi).map V.int := by
      unfold cutV Z.cut
      rw [List.length_map, List.map_take, List.map_drop]
    rw [e2]
    exact ints_vs
  · exact g.elim
def eSl (m : E) (p q : PtE) : E := fun ρ S => (m ρ S).bind fun a S => (p ρ S).bind fun lo S => (q ρ S).bind fun hi S => oSl a lo hi S
theorem ce_slice {e : Expr} {lo hi : Option Expr} {m : E} {p q : PtE} {p2 : Pos} (he : CE X e m) (hl : CO X lo p) (hh : CO X hi q) : CE X (.Subscript e (.Slice lo hi none p2) pos) (eSl m p q) := fun W tk => ⟨fun pins s σ H Q I h =>
  (pe_slice (sl_any W σ) (he W tk) (hl W tk) (hh W tk)).run pins s σ H Q I (by
    obtain ⟨G, ρ, S, rs, re, h⟩ := h
    obtain ⟨G0, ρ0, S0, a, b, c⟩ := tEv.bind rs re h
    refine ⟨G0, ρ0, S0, a, b, Go.mono c fun v H1 ⟨G1, d, S1, s1, rs1, re1, dv, g1⟩ => ?_⟩
    refine ⟨G1, ρ, S1, rs1, re1, Go.mono (Go.bind (rel := relO) g1) fun lo H2 ⟨G2, lo', S2, s2, rs2, el, g2⟩ => ?_⟩
    cases (show lo' = lo from el)
    refine ⟨G2, ρ, S2, rs2, re1.mono s2, Go.mono (Go.bind (rel := relO) g2) fun hi H3 ⟨G3, hi', S3, s3, rs3, eh, g3⟩ => ?_⟩
    cases (show hi' = hi from eh)
    exact ⟨G3, S3, d, rs3, (dv.mono s2).mono s3, g3⟩)⟩
end
end Z

/-! Z6: xs[::-1]; calls of built-ins. -/
namespace Z
open PySem PySem.Spec PyProof.Rows L2
section
variable {prog : Program} {w : World} {A : Around} {E : Value → Shared → Prop} {s : Shared}
theorem filterMap_congr' {α β : Type} {f g : α → Option β} : ∀ {l : List α}, (∀ m ∈ l, f m = g m) → l.filterMap f = l.filterMap g
  | [], _ => rfl
  | a :: l, h => by rw [List.filterMap_cons, List.filterMap_cons, h a List.mem_cons_self, filterMap_congr' fun m hm => h m (List.mem_cons_of_mem _ hm)]
theorem rev_pick (xs : Array Value) : ((List.range xs.size).filterMap fun (m : Nat) => xs[(((xs.size : Int) - 1) + (m : Int) * (-1)).toNat]?).toArray = xs.toList.reverse.toArray := by
  have e : (List.range xs.size).filterMap (fun (m : Nat) => xs[(((xs.size : Int) - 1) + (m : Int) * (-1)).toNat]?) = ((List.range xs.size).map fun k => xs.size - 1 - k).filterMap (xs[·]?) := by
    rw [List.filterMap_map]
    apply filterMap_congr'
    intro m hm
    have := List.mem_range.mp hm
    have e : (((xs.size : Int) - 1) + (m : Int) * (-1)).toNat = xs.size - 1 - m := by omega
    show xs[_]? = xs[_]?
    rw [e]
  rw [e, PySem.W.krv_range, List.filterMap_reverse, PySem.W.krv_all]
theorem getItem_tuple_rev {t sl : Addr} {items : Array Value} {vs : Value} {Q : Value → Shared → Prop} (ht : IsTup s.heap t items) (hs : s.heap.IsSliceOf sl .none .none vs) (ps : IsPart vs (some (-1)))
    (h : Q (.ref s.heap.objs.size) { s with heap := s.heap.push { cls := .type "tuple", data := .seq items.toList.reverse.toArray } })
    (hsz : items.size ≤ sizeLine) : wpAny (model prog w) A (getItem (.ref t) (.ref sl)) Q E s := by
  have htake : sizeOk (.seq items.toList.reverse.toArray) := by
    show items.toList.reverse.toArray.size ≤ sizeLine
    simpa using hsz
  obtain ⟨os, hos, hcs, hds⟩ := id hs
  have hTs : s.TypeIs (.ref sl) "slice" := ⟨os, hos, hcs⟩
  unfold getItem
  try with_reducible refine wpAny_holding ?_
  first | refine wpAny_bind (wpAny_pure ?_) | skip
  refine wpAny_bind (wpAny_sequenceKey ht.typeIs (by decide) ?_)
  refine wpAny_bind (wpAny_callSpecial?_slot (name := Str.ofString "__getitem__") ht.typeIs PyProof.Rows.slot_tuple_getitem
    (wpAny_call_entry PyProof.Rows.slot_tuple_getitem ht.typeIs entry_tuple_getitem ?_ (args_tuple_getitem _ _)))
  show wpAny _ _ (Builtin.Tuple.tupleItemsOf (.ref t) >>= _) _ _ s
  refine wpAny_bind (tupleItemsOf_ ht ?_)
  refine wpAny_bind (wpAny_typeOf hTs ?_)
  rw [if_pos (by decide)]
  have hap : ∀ {A : Around} {E : Value → Shared → Prop} {Q : Int × Int × Nat → Shared → Prop}, Q ((items.size : Int) - 1, -1, items.size) s → wpAny (model prog w) A (Builtin.Slice.sliceApplied (.ref sl) (pure (items.size : Int))) Q E s := fun {A E Q} h => by
    unfold Builtin.Slice.sliceApplied Builtin.Slice.sliceFields
    refine wpAny_bind (wpAny_bind (wpAny_field hos hds (x := .none) rfl (wpAny_bind (wpAny_field hos hds (x := .none) rfl (wpAny_bind (wpAny_field hos hds (x := vs) rfl (wpAny_pure ?_)))))))
    refine wpAny_bind (HT.slicePart_ ps ?_)
    show wpAny _ _ (if ((-1 : Int) == 0) = true then _ else _) _ _ s
    rw [if_neg (by decide)]
    refine wpAny_bind (HT.slicePart_ .none (wpAny_bind (HT.slicePart_ .none (wpAny_bind (wpAny_pure ?_)))))
    show wpAny _ _ (pure ((items.size : Int) - 1, (-1 : Int), Builtin.Slice.slicePlaces ((items.size : Int) - 1) (-1) (-1))) _ _ s
    have e : Builtin.Slice.slicePlaces ((items.size : Int) - 1) (-1) (-1) = items.size := by
      unfold Builtin.Slice.slicePlaces
      have h1 : ¬ ((-1 : Int) > 0) := by decide
      simp only [h1, if_false, Int.neg_neg, Int.ediv_one]
      split <;> omega
    rw [e]
    exact wpAny_pure h
  refine wpAny_bind (hap ?_)
  have hno : ¬ ((((items.size : Int) - 1) == 0 && (-1 : Int) == 1 && items.size == items.size) = true) := by
    rw [show ((-1 : Int) == 1) = false from rfl, Bool.and_false, Bool.false_and]
    exact Bool.false_ne_true
  show wpAny _ _ (if ((((items.size : Int) - 1) == 0 && (-1 : Int) == 1 && items.size == items.size) = true) then _ else _) _ _ s
  rw [if_neg hno, rev_pick]
  first
    | exact wpAny_bind (m := Builtin.Tuple.tupleExact _) (wpAny_newObj_type (wpAny_pure ⟨_, rfl, wpAny_pure h⟩) htake)
    | exact wpAny_bind (m := Builtin.Tuple.tupleExact _) (wpAny_newObj_type (wpAny_bind (wpAny_pure (wpAny_pure ⟨_, rfl, wpAny_pure h⟩))) htake)
    | exact wpAny_bind (wpAny_bind (m := Builtin.Tuple.tupleExact _) (wpAny_newObj_type (wpAny_pure (wpAny_pure ⟨_, rfl, wpAny_pure h⟩)) htake))
    | exact wpAny_bind (wpAny_bind (m := Builtin.Tuple.tupleExact _) (wpAny_newObj_type (wpAny_pure ⟨_, rfl, wpAny_pure h⟩) htake))
end
section
variable {X : Cx} {pos : Pos} {k : Nat}
theorem DVs.reverse {U : Wd} {G : Gh} {H : Hp} : ∀ {ds : List D} {vs : List V}, DVs U G H ds vs → DVs U G H ds.reverse vs.reverse
  | [], _, h => by cases (show _ = _ from h); rfl
  | d :: ds, _, ⟨v, r, e, h1, h2⟩ => by subst e; rw [List.reverse_cons, List.reverse_cons]; exact (DVs.reverse h2).append (DVs.cons h1 DVs.nil)
def eRev (m : E) : E := fun ρ S => (m ρ S).bind fun a S => match rd S a with
  | .tup ds => .ok (.tup ds.reverse) S
  | .lst ds => .ok (.lst ds.reverse) S
  | _ => .bad
theorem ce_rev {e : Expr} {m : E} {k : Nat} {p1 p2 p3 : Pos} (he : CE X e m) : CE X (.Subscript e (.Slice none none (some (.UnaryOp .USub (.Constant (.int 1) k p1) p2)) p3) pos) (eRev m) := fun W tk => ⟨fun pins s σ H Q I h => by
  obtain ⟨G, ρ, S, rs, re, h⟩ := h
  obtain ⟨G0, ρ0, S0, a0, b0, c0⟩ := tEv.bind rs re h
  refine Subscript_ (thn ((he W tk).run pins s σ H _ I ⟨G0, ρ0, S0, a0, b0, c0⟩) fun v s1 ⟨x, H1, I1, r1, G1, d, S1, st1, rs1, re1, dv, g⟩ => ?_)
  have hst : PO X (some (.UnaryOp .USub (.Constant (.int 1) k p1) p2)) (tPart (tUn (rU fun i => .int (-i)) (tC (.int 1)))) := po_some (pe_un un_neg pe_int)
  refine wpAny_Slice (thn (po_none.run pins s1 σ H1 (fun o H2 => o = none ∧ H2 = H1) I1 ⟨rfl, rfl⟩) fun vl s2 ⟨l, H2, I2, pl, el, e2⟩ => ?_)
  subst el e2
  refine thn (po_none.run pins s2 σ H2 (fun o H3 => o = none ∧ H3 = H2) I2 ⟨rfl, rfl⟩) fun vu s3 ⟨u, H3, I3, pu, eu, e3⟩ => ?_
  subst eu e3
  refine thn (hst.run pins s3 σ H3 (fun o H4 => o = some (-1) ∧ H4 = H3) I3 ⟨1, rfl, -1, rfl, rfl, rfl⟩) fun vs s4 ⟨o, H4, I4, ps, eo, e4⟩ => ?_
  subst eo e4
  have I5 : Inv X pins σ H4 { s4 with heap := s4.heap.push { cls := .type "slice", data := .fields #[vl, vu, vs] } } := I4.kept (t' := s4.toks) fun b o e => Heap.get?_push_of_some _ e
  split at g
  · rename_i ds e
    obtain ⟨p, vs', rfl, t, q⟩ := rd_tup e dv
    cases r1
    obtain ⟨its, r, ht, hz⟩ := I5.tuple t
    show wpAny (model X.prog X.w) X.A (subscriptTail _ (.Slice none none (some (.UnaryOp .USub (.Constant (.int 1) k p1) p2)) p3) (.ref p) (.ref s4.heap.objs.size)) (EP X pins σ Q) X.xe { s4 with heap := s4.heap.push { cls := .type "slice", data := .fields #[vl, vu, vs] } }
    refine tail_any (ops := [.ref p, .ref s4.heap.objs.size]) ht.typeIs (PyProof.Rows.slot_tuple_getitem.lookup) ?_ (by with_unfolding_all rfl)
    cases pl
    cases pu
    refine getItem_tuple_rev ht (Heap.IsSliceOf.new _ .none .none vs) ps ?_ (by rw [List.size_toArray, ← r.length]; exact hz)
    refine ⟨.ref _, _, I5.laid (t' := s4.toks) (o := .tup vs'.reverse) (fun b ob q => Heap.get?_push_of_some _ q) (Nat.le_refl _) ?_, rfl, Go.new g rs1 (I5.hok.fresh (Nat.le_refl _)) (new_tup rs1 (I5.hok.fresh (Nat.le_refl _)) q.reverse)⟩
    exact ⟨by rw [List.length_reverse]; exact hz, _, r.reverse, ⟨_, Heap.get?_push_size _ rfl, rfl, _, rfl⟩⟩
  · rename_i ds e
    obtain ⟨p, vs', rfl, t, q⟩ := rd_lst rs1 e dv
    cases r1
    obtain ⟨its, r, ht, hz⟩ := I5.list t
    have hlen := r.length
    show wpAny (model X.prog X.w) X.A (subscriptTail _ (.Slice none none (some (.UnaryOp .USub (.Constant (.int 1) k p1) p2)) p3) (.ref p) (.ref s4.heap.objs.size)) (EP X pins σ Q) X.xe { s4 with heap := s4.heap.push { cls := .type "slice", data := .fields #[vl, vu, vs] } }
    refine tail_any (ops := [.ref p, .ref s4.heap.objs.size]) ht.isList.typeIs (PySem.slot_list_getitem.lookup) ?_ (by with_unfolding_all rfl)
    refine wpAny_getItem_list_slice ht.isList (Heap.IsSliceOf.new _ vl vu vs) pl pu ps (by decide) ?_ (by rw [List.size_toArray]; omega)
    rw [PySem.W.krv_pick]
    refine ⟨.ref _, _, I5.laid (t' := s4.toks) (o := .lst vs'.reverse) (fun b ob q => Heap.get?_push_of_some _ q) (Nat.le_refl _) ?_, rfl, Go.new g rs1 (I5.hok.fresh (Nat.le_refl _)) (new_lst rs1 (I5.hok.fresh (Nat.le_refl _)) q.reverse)⟩
    exact ⟨by rw [List.length_reverse]; exact hz, _, 0, r.reverse, Heap.get?_push_size _ rfl⟩
  · exact g.elim⟩
end
end Z

/-! ZG: what a def promises where no repr is under way; its call; the law's own call. -/
namespace Z
open PySem PySem.Spec PyProof PyProof.Rows L2
structure FnG (P : Program) (w : World) (K : PySem.W.Frag) (mg : Str → Option Value) (base : Heap) (CX : CXT) (k : Nat) (f : Addr) (fd : FuncData) (ps : List Str) (sp : Sp) : Prop where
  ln : ∀ vs H Q E, sp vs H Q E → vs.length = ps.length
  go : ∀ (A : Around) (outer : List PySem.Env) (s : Shared) (H : Hp) (args : Args) (us : List Value) (vs : List V) (Q : VK) (E : XK), Room k A → A.guards = some [] → Env0 P w K mg base A outer s H → BindsTo s fd args (ps.zip us) → Vals vs us → sp vs H Q E → codeAny (model P w) A (.call (.ref f) args) (CR CX outer P w H s Q E) s
section
variable {P : Program} {w : World} {K : PySem.W.Frag} {mg : Str → Option Value} {base : Heap} {CX : CXT} {j k : Nat} {f : Addr} {fd : FuncData} {ps : List Str} {sp sp' : Sp}
theorem FnG.mono (F : FnG P w K mg base CX j f fd ps sp) (h : j ≤ k) : FnG P w K mg base CX k f fd ps sp := ⟨F.ln, fun A outer s H args us vs Q E hr hg => F.go A outer s H args us vs Q E (hr.mono h) hg⟩
theorem FnG.imp (F : FnG P w K mg base CX k f fd ps sp) (h : ∀ vs H Q E, sp' vs H Q E → sp vs H Q E) : FnG P w K mg base CX k f fd ps sp' :=
  ⟨fun vs H Q E q => F.ln vs H Q E (h _ _ _ _ q), fun A outer s H args us vs Q E hr hg he hb hv hs => F.go A outer s H args us vs Q E hr hg he hb hv (h _ _ _ _ hs)⟩
end
section
variable {X : Cx} {CX : CXT} {k : Nat} {f : Addr} {fd : FuncData} {ps : List Str} {sp : Sp} {E : L2.St → XK}
theorem runG {pins : List (Addr × Obj)} {σ : L2.St} {H : Hp} {s : Shared} {Q : VK} {us : List Value} {vs : List V} (F : FnG X.prog X.w X.K X.mg X.base CX k f fd ps sp) (hr : Room k X.A) (hgd : X.A.guards = some []) (hb : Binds X.K fd ps []) (hx : PassesAt CX X σ (E σ)) (inv : Inv X pins σ H s) (rv : Vals vs us) (want : sp vs H Q (E σ)) :
    wpAny (model X.prog X.w) X.A (call (.ref f) us) (EP X pins σ Q) X.xe s := by
  have many : us.length = ps.length := by rw [← rv.length]; exact F.ln _ _ _ _ want
  have bd := hb s us inv.kIn (by rw [List.append_nil]; exact many)
  rw [List.append_nil] at bd
  have z := F.go X.A X.stack s H ⟨us, []⟩ us vs Q (E σ) hr hgd inv.env0 bd rv want
  refine wpAny_call (codeAny_mono z fun end_ s2 hq => ?_)
  cases end_ with
  | error e => exact hx pins H s e s2 inv hq
  | ok fl =>
    cases fl with
    | ret u => exact inv.after hq
    | _ => exact False.elim hq
theorem pe_callG {x : Str} {p pos : Pos} {e : Expr} {es : List Expr} {t : TA} (F : FnG X.prog X.w X.K X.mg X.base CX k f fd ps sp) (hr : Room k X.A) (hgd : X.A.guards = some []) (hg : Gl X x) (hm : X.mg x = some (.ref f)) (hk : PySem.W.keepIn X.K (.ref f) = true) (hb : Binds X.K fd ps []) (hx : ∀ σ, PassesAt CX X σ (E σ)) (ha : PA X (e :: es) t) (hdb : (x == ("__debug__" : Str)) = false := by decide) (he : starEach (e :: es) X.env = (false, eval e X.env) :: starEach es X.env := by rfl) (hpl : (backTo pos (starEach es X.env)).any (·.1) = false := by rfl) :
    PE X (.Call (.Name x p) (e :: es) [] pos) (tCallS sp E t) := ⟨fun pins s σ H Q inv h => wpAny_Call_Name_kw (ld_glob inv hg hm (PySem.W.callWith_K (h₀ := X.base) inv.ok.mod.kin hk (thn (ha.run pos pins s σ H _ inv h) fun us s2 ⟨vs, H2, inv2, rv, q⟩ => ⟨inv2.kIn, runG F hr hgd hb (hx σ) inv2 rv q⟩) he hpl) hdb)⟩
theorem pe_callG0 {x : Str} {p pos : Pos} (F : FnG X.prog X.w X.K X.mg X.base CX k f fd ps sp) (hr : Room k X.A) (hgd : X.A.guards = some []) (hg : Gl X x) (hm : X.mg x = some (.ref f)) (hk : PySem.W.keepIn X.K (.ref f) = true) (hb : Binds X.K fd ps []) (hx : ∀ σ, PassesAt CX X σ (E σ)) (hdb : (x == ("__debug__" : Str)) = false := by decide) :
    PE X (.Call (.Name x p) [] [] pos) (tCallS sp E tNil) := ⟨fun pins s σ H Q inv h => wpAny_Call_Name_kw (ld_glob inv hg hm (PySem.W.callWith_K0 inv.kIn hk (runG (us := []) F hr hgd hb (hx σ) inv .nil h)) hdb)⟩
end
/-! a def's body -/
theorem fnG_of {CX : CXT} {P : Program} {w : World} {K : PySem.W.Frag} {mg : Str → Option Value} {base : Heap} {k : Nat} {f : Addr} {name qual : Str} {params : Arguments} {body : List Stmt} {scope : Scope} {dV kV doc pm cdv ct oc : Value} {an od : Option Addr} {osl : Array (Option Value)} {N ps : List Str} {sp : Sp} (lk : K.lookup f = some ⟨oc, od, .func (PySem.W.fnOf name qual params body scope dV kV doc pm an cdv ct), osl⟩) (hcd : PySem.W.codeIn K cdv qual = true) (Sc : FnScope N ps scope) (ln : ∀ vs H Q E, sp vs H Q E → vs.length = ps.length)
    (hbody : ∀ (A : Around) (outer : List PySem.Env) (s : Shared) (H : Hp) (vs : List V) (Q : VK) (E : XK), Room k (A.deeper (envOfC qual scope s.heap.objs.size f cdv)) → A.guards = some [] → sp vs H Q E →
      ∃ t, PSs (cxOf CX P w K mg base N qual scope f cdv A outer s H E) body t ∧ t { nx := fun _ H' => Q .non H', rt := Q } (L2.start N vs) H) :
    FnG P w K mg base CX (k + 1) f (PySem.W.fnOf name qual params body scope dV kV doc pm an cdv ct) ps sp := by
  refine ⟨ln, fun A outer s H args us vs Q E hr hgd e0 hb rv want => ?_⟩
  have many := ln _ _ _ _ want
  have kin : K.In s.heap := e0.mod.kin.keeps fun b o e => (e0.bs b o e).1
  have lim : s.heap.NoLimit := e0.mod.nolimit.keeps fun b o e => (e0.bs b o e).1
  have kinds : ∀ y ∈ ps.zip us, scope.names.lookup y.1 = some .local ∨ (scope.names.lookup y.1 = some .cell ∧ ((cellsFrom (s.heap.objs.size + 1) scope.names []).lookup y.1).isSome = true) := fun y hy =>
    (Sc.par y.1 (List.of_mem_zip (show (y.1, y.2) ∈ _ from hy)).1).elim .inl fun q => .inr ⟨q, PySem.W.cellsFrom_some _ _ _ (.inl q)⟩
  refine codeAny_call_function hr.depth (kin _ _ lk) rfl Sc.co Sc.gen rfl (PySem.W.codeRec_of kin hcd) (hb _ _ _ _ (wpAny_newFunctionEnv_cells Sc.kind kinds fun env he s2 x => ?_))
  subst he
  refine ⟨lim.keeps x.toInCall.keep, codeAny_func ?_⟩
  obtain ⟨t, ht, hq⟩ := hbody A outer s H vs Q E (hr.deeper _) hgd want
  have inv : Inv (cxOf CX P w K mg base N qual scope f cdv A outer s H E) [] (L2.start N vs) H s2 := inv_start Sc hr.hd e0 many rv x
  have fin : ∀ {s3 : Shared} {σ' : L2.St} {H' : Hp} {v : V} {u : Value}, Inv (cxOf CX P w K mg base N qual scope f cdv A outer s H E) [] σ' H' s3 → RelV v u → Q v H' → L2.CE outer P w H s Q u s3 := fun {s3 σ' H' v u} J r q => ⟨v, H', J.os, J.bare, J.base, J.hok, r, q⟩
  refine wpAny_mono (ht.run [] s2 (L2.start N vs) H _ inv hq) (fun fl s3 hs => ?_) fun e s3 hs => hs
  cases fl with
  | ret u => exact let ⟨v, σ', H', J, r, q⟩ := hs; fin J r q
  | next => exact let ⟨σ', H', J, q⟩ := hs; fin (v := V.non) (u := Value.none) J rfl q
  | brk => exact let ⟨_, _, _, q⟩ := hs; False.elim q
  | cont => exact let ⟨_, _, _, q⟩ := hs; False.elim q
theorem fnG_D {CX : CXT} {P : Program} {w : World} {K : PySem.W.Frag} {mg : Str → Option Value} {base : Heap} {x qual : Str} {params : Arguments} {body : List Stmt} {scope : Scope} {dvs : List V} {kws : List (Str × V)} {f : Addr} {fd : FuncData} {N ps : List Str} {k : Nat} {sp : Sp} (F : FunD K x qual params body scope dvs kws f fd) (Sc : FnScope N ps scope) (ln : ∀ vs H Q E, sp vs H Q E → vs.length = ps.length)
    (hbody : ∀ (cdv : Value) (A : Around) (outer : List PySem.Env) (s : Shared) (H : Hp) (vs : List V) (Q : VK) (E : XK), Room k (A.deeper (envOfC qual scope s.heap.objs.size f cdv)) → A.guards = some [] → sp vs H Q E →
      ∃ t, PSs (cxOf CX P w K mg base N qual scope f cdv A outer s H E) body t ∧ t { nx := fun _ H' => Q .non H', rt := Q } (L2.start N vs) H) : FnG P w K mg base CX (k + 1) f fd ps sp := by
  obtain ⟨_, _, _, _, _, _, _, cdv, _, _, rfl, lk, hcd, _⟩ := F.ex
  exact fnG_of lk hcd Sc ln fun A outer s H vs Q E => hbody cdv A outer s H vs Q E
/-! the law's own call, from a heap in which nothing but the script may be tracked -/
theorem lawG {P : Program} {w : World} {K : PySem.W.Frag} {mg mb : Str → Option Value} {CX : CXT} {k : Nat} {fa a : Addr} {fd : FuncData} {x : Str} {sp : Sp} {s1 : Shared} {vs : List Value} {ns : List Int}
    (KX : K.In s1.heap) (hns : s1.heap.Ns mainGlobals mg) (hb : s1.heap.Ns builtinsNs mb) (hbb : ∀ x : Str, x ≠ "__name__" → mb x = bootBuiltins x) (hlim : s1.heap.NoLimit) (hg : s1.gens = #[]) (ha : s1.heap.get? a = some { cls := .type "list", data := .seq vs.toArray }) (hi : IntsAre vs ns) (hl : ns.length ≤ sizeLine) (hr : Room k callerA)
    (F : ∀ base : Heap, K.In base → base.Ns mainGlobals mg → FnG P w K mg base CX k fa fd [x] sp) (hbind : ∀ (s : Shared) (u : Value), K.In s.heap → BindsTo s fd ⟨[u], []⟩ [(x, u)]) (hsp : ∀ H : Hp, Only H → SqL K H a (ns.map V.int) → sp [.ref a] H (fun v _ => v = .bl true) fun _ _ _ => False) (hCX : ∀ H e s', CX [] H s1 (fun _ _ _ => False) e s' → False) :
    codeAny (model P w) callerA (.call (.ref fa) ⟨[.ref a], []⟩) (fun r s' => r = .ok (.ret (.bool true)) ∧ OldK s1.heap s'.heap ∧ s'.os = s1.os ∧ AllBare s'.gens) s1 := by
  have rel := vals_ints hi
  have many := hi.length
  have from_ : ∀ H : Hp, Only H → SqL K H a (ns.map V.int) → HOk P w H s1.heap → (∀ b, H b ≠ none → b = a) → (H a ≠ none → K.lookup a = none) → codeAny (model P w) callerA (.call (.ref fa) ⟨[.ref a], []⟩) (fun r s' => r = .ok (.ret (.bool true)) ∧ OldK s1.heap s'.heap ∧ s'.os = s1.os ∧ AllBare s'.gens) s1 := by
    intro H only seq hok alone free
    have there : ∀ {b : Addr} {o : Obj}, s1.heap.get? b = some o → H b = none → (hidT s1.heap H).get? b = some o := fun e n => hidT_get e n
    have clear : ∀ {b : Addr} {o : Obj} {es : Array DictEntry} {ep : Nat}, s1.heap.get? b = some o → o.data = .dict es ep → H b = none := fun {b o es ep} e d => by
      apply Classical.byContradiction
      intro q
      have z := alone b q
      subst z
      rw [ha] at e
      cases e
      exact nomatch (show Data.seq vs.toArray _ = Data.dict es ep from d)
    have spaces : ∀ {b : Addr} {m : Str → Option Value}, s1.heap.Ns b m → (hidT s1.heap H).Ns b m := fun ⟨o, es, ep, e, d, r⟩ => ⟨o, es, ep, there e (clear e d), d, r⟩
    have part : K.In (hidT s1.heap H) := fun b o e => there (KX b o e) (by
      apply Classical.byContradiction
      intro q
      have z := alone b q
      subst z
      rw [free q] at e
      cases e)
    have md : Mod K mg (hidT s1.heap H) := ⟨part, spaces hns, ⟨mb, spaces hb, hbb⟩, let ⟨mc, h1, h2⟩ := hlim; ⟨mc, spaces h1, h2⟩⟩
    have e0 : Env0 P w K mg (hidT s1.heap H) callerA [] s1 H := ⟨rfl, md, fun b o e => of_hidT e, Nat.le_of_eq (hidT_size _ _), trivial, fun b hb => absurd (show b ∈ ([] : List Addr) from hb) (by simp), hok, .of_eq hg⟩
    refine codeAny_mono ((F _ part (spaces hns)).go callerA [] s1 H ⟨[.ref a], []⟩ [.ref a] [.ref a] _ _ hr rfl e0 (hbind s1 (.ref a) KX) (.cons rfl .nil) (hsp H only seq)) fun r s' h => ?_
    rcases r with e | fl
    · exact (hCX H e s' h).elim
    · cases fl with
      | ret u =>
        obtain ⟨v, H', os, bare, un, hok2, rv, q⟩ := h
        have q : v = .bl true := q
        subst q
        obtain rfl : u = Value.bool true := rv
        refine ⟨rfl, OldK.of_keep fun b o e => ?_, os, bare⟩
        rcases only b with z | ⟨ob, xs, z⟩
        · exact un.keep b o e z (fun y => absurd (show b ∈ ([] : List Addr) from y) (by simp)) (by simp)
        · obtain ⟨e1, _⟩ := hok b _ z
          obtain ⟨e2, _⟩ := hok2 b _ (un.frzs b ob _ z)
          rw [e] at e1
          cases e1
          exact e2
      | _ => exact False.elim h
  cases hk : K.lookup a with
  | some o =>
    have e := KX a o hk
    rw [ha] at e
    cases e
    refine from_ (fun _ => none) (fun _ => .inl rfl) (.inr ⟨_, vs.toArray, _, hk, rfl, rfl, rfl, by rw [List.size_toArray, many]; exact hl, by simpa using rel⟩) (fun b u z => nomatch (show (none : Option HO) = some u from z)) (fun b z => absurd rfl z) fun z => absurd rfl z
  | none =>
    have at_ : ∀ b, (if b = a then some (HO.frz { cls := .type "list", data := .seq vs.toArray } (.lst (ns.map V.int))) else none) ≠ none → b = a := fun b z => by
      by_cases hb : b = a
      · exact hb
      · exact absurd (if_neg hb) z
    refine from_ (fun b => if b = a then some (.frz { cls := .type "list", data := .seq vs.toArray } (.lst (ns.map V.int))) else none) (fun b => ?_) (.inl (.inr ⟨{ cls := .type "list", data := .seq vs.toArray }, if_pos rfl⟩)) (fun b u z => ?_) at_ fun _ => hk
    · by_cases hb : b = a
      · exact .inr ⟨_, _, if_pos hb⟩
      · exact .inl (if_neg hb)
    · have hb : b = a := at_ b fun y => nomatch y.symm.trans z
      subst hb
      have z2 := (if_pos rfl).symm.trans z
      cases z2
      exact ⟨ha, by rw [List.length_map]; exact hl, vs, _, rel, ha⟩
theorem walkG {l : PySem.W.OpenLaw} {n k : Nat} {q : Program} {loose : List Str} {XP : (Str → Option Value) → Heap → Prop} {YP : World → Heap → Prop} {d : DefRec} {CX : World → CXT} {x : Str} (hn : l.most = some n) (hn2 : n ≤ sizeLine) (hdf : d.params.defaults = []) (hr : Room k callerA)
    (F : ∀ (w : World) (mg : Str → Option Value) (fa : Addr) (h : Heap), YP w h → h.Ns mainGlobals mg → mg d.name = some (.ref fa) → ∃ (K : PySem.W.Frag) (fd : FuncData) (sp : Sp), K.In h ∧ (∀ (s : Shared) (u : Value), K.In s.heap → BindsTo s fd ⟨[u], []⟩ [(x, u)]) ∧
      (∀ (H : Hp) (a : Addr) (ns : List Int), ns.length ≤ n → Only H → SqL K H a (ns.map V.int) → sp [.ref a] H (fun v _ => v = .bl true) fun _ _ _ => False) ∧ ∀ base : Heap, K.In base → base.Ns mainGlobals mg → FnG l.prog w K mg base (CX w) k fa fd [x] sp)
    (hCX : ∀ (w : World) (H : Hp) (s : Shared) (e : Value) (s' : Shared), CX w [] H s (fun _ _ _ => False) e s' → False) : PySem.W.WalkO q loose XP YP l.row.toRowW d [] (fun f vs => PySem.call f vs) :=
  Att.attach_call hn hdf fun w s0 s1 mg mb fa o pm cd doc a vs ns G Y ho hd hcd hmg hobj hints hlen hg =>
    let ⟨_, _, _, KX, hb, hsp, hF⟩ := F w mg fa _ Y G.T.g hmg
    lawG KX G.T.g G.T.b G.T.builtins G.T.nolimit hg hobj hints (Nat.le_trans hlen hn2) hr hF hb (fun H hO hS => hsp H a ns hlen hO hS) fun H e s' => hCX w H s1 e s'
end Z

/-! Z7: frozen values, the calls of defs, built-ins. -/
namespace Z
open PySem PySem.Spec PyProof.Rows L2

/-! ### references filled in -/
mutual
def mapR (g : Nat → D) : D → D
  | .ref n => g n
  | .tup ds => .tup (mapRs g ds)
  | .lst ds => .lst (mapRs g ds)
  | .dct ks zs => .dct ks (mapRs g zs)
  | .dcn ks zs => .dcn ks (mapRs g zs)
  | .non => .non
  | .bl b => .bl b
  | .int i => .int i
  | .str s => .str s
  | .arg ns => .arg ns
def mapRs (g : Nat → D) : List D → List D
  | [] => []
  | d :: ds => mapR g d :: mapRs g ds
end
mutual
/-- no reference within -/
def nrf : D → Bool
  | .ref _ => false
  | .tup ds => nrfs ds
  | .lst ds => nrfs ds
  | .dct _ zs => nrfs zs
  | .dcn ks zs => nrfs ks && nrfs zs
  | _ => true
def nrfs : List D → Bool
  | [] => true
  | d :: ds => nrf d && nrfs ds
end
mutual
/-- nothing within that may change -/
def fln : D → Bool
  | .tup ds => flns ds
  | .non => true
  | .bl _ => true
  | .int _ => true
  | .str _ => true
  | _ => false
def flns : List D → Bool
  | [] => true
  | d :: ds => fln d && flns ds
end
def fz : Nat → Sto → D → D
  | 0, _ => id
  | k + 1, S => mapR fun n => match S.get n with
    | some (.lst ds) => .lst (ds.map (fz k S))
    | some (.dct ks zs) => .dct ks (zs.map (fz k S))
    | some (.dcn ks zs) => .dcn ks (zs.map (fz k S))
    | _ => .ref n
section
variable {U : Wd} {G Gt : Gh} {H : Hp}
mutual
theorem nrf_dv (hn : ∀ a, NS G a → NS Gt a) : ∀ {d : D} {v : V}, nrf d = true → DV U G H d v → DV U Gt H d v
  | .non, _, _, h => h
  | .bl _, _, _, h => h
  | .int _, _, _, h => h
  | .str _, _, _, h => h
  | .tup ds, _, k, ⟨a, vs, e, t, h⟩ => ⟨a, vs, e, t.elim (fun t => .inl ⟨t.1, hn _ t.2⟩) .inr, nrfs_dv hn (by simpa [nrf] using k) h⟩
  | .lst ds, _, k, ⟨a, vs, e, t, h⟩ => ⟨a, vs, e, ⟨t.1, hn _ t.2⟩, nrfs_dv hn (by simpa [nrf] using k) h⟩
  | .dct ks zs, _, k, ⟨a, kvs, e, t, h1, h2⟩ => ⟨a, kvs, e, ⟨t.1, hn _ t.2⟩, h1, nrfs_dv hn (by simpa [nrf] using k) h2⟩
  | .dcn ks zs, _, k, ⟨a, xs, e, t, h1, h3, h2⟩ => by
    have k : (nrfs ks && nrfs zs) = true := by simpa [nrf] using k
    obtain ⟨k1, k2⟩ := Bool.and_eq_true_iff.mp k
    exact ⟨a, xs, e, ⟨t.1, hn _ t.2⟩, h1, nrfs_dv hn k1 h3, nrfs_dv hn k2 h2⟩
  | .ref n, _, k, _ => by simp [nrf] at k
  | .arg ns, _, _, ⟨a, e, t⟩ => ⟨a, e, t.elim (fun t => .inl ⟨t.1, hn _ t.2⟩) .inr⟩
theorem nrfs_dv (hn : ∀ a, NS G a → NS Gt a) : ∀ {ds : List D} {vs : List V}, nrfs ds = true → DVs U G H ds vs → DVs U Gt H ds vs
  | [], _, _, h => h
  | d :: ds, _, k, ⟨v, r, e, h1, h2⟩ => by
    have k : (nrf d && nrfs ds) = true := by simpa [nrfs] using k
    obtain ⟨k1, k2⟩ := Bool.and_eq_true_iff.mp k
    exact ⟨v, r, e, nrf_dv hn k1 h1, nrfs_dv hn k2 h2⟩
end
mutual
theorem mapR_dv {g : Nat → D} (hn : ∀ a, NS G a → NS Gt a) (hg : ∀ n, n < G.n → nrf (g n) = true → DV U Gt H (g n) (.ref (G.ι n))) : ∀ {d : D} {v : V}, nrf (mapR g d) = true → DV U G H d v → DV U Gt H (mapR g d) v
  | .non, _, _, h => h
  | .bl _, _, _, h => h
  | .int _, _, _, h => h
  | .str _, _, _, h => h
  | .tup ds, _, k, ⟨a, vs, e, t, h⟩ => ⟨a, vs, e, t.elim (fun t => .inl ⟨t.1, hn _ t.2⟩) .inr, mapRs_dv hn hg (by simpa [nrf, mapR] using k) h⟩
  | .lst ds, _, k, ⟨a, vs, e, t, h⟩ => ⟨a, vs, e, ⟨t.1, hn _ t.2⟩, mapRs_dv hn hg (by simpa [nrf, mapR] using k) h⟩
  | .dct ks zs, _, k, ⟨a, kvs, e, t, h1, h2⟩ => ⟨a, kvs, e, ⟨t.1, hn _ t.2⟩, h1, mapRs_dv hn hg (by simpa [nrf, mapR] using k) h2⟩
  | .dcn ks zs, _, k, ⟨a, xs, e, t, h1, h3, h2⟩ => by
    have k : (nrfs ks && nrfs (mapRs g zs)) = true := by simpa [nrf, mapR] using k
    obtain ⟨k1, k2⟩ := Bool.and_eq_true_iff.mp k
    exact ⟨a, xs, e, ⟨t.1, hn _ t.2⟩, h1, nrfs_dv hn k1 h3, mapRs_dv hn hg k2 h2⟩
  | .ref n, _, k, ⟨h, e⟩ => by subst e; exact hg n h (by simpa [mapR] using k)
  | .arg ns, _, _, ⟨a, e, t⟩ => ⟨a, e, t.elim (fun t => .inl ⟨t.1, hn _ t.2⟩) .inr⟩
theorem mapRs_dv {g : Nat → D} (hn : ∀ a, NS G a → NS Gt a) (hg : ∀ n, n < G.n → nrf (g n) = true → DV U Gt H (g n) (.ref (G.ι n))) : ∀ {ds : List D} {vs : List V}, nrfs (mapRs g ds) = true → DVs U G H ds vs → DVs U Gt H (mapRs g ds) vs
  | [], _, _, h => h
  | d :: ds, _, k, ⟨v, r, e, h1, h2⟩ => by
    have k : (nrf (mapR g d) && nrfs (mapRs g ds)) = true := by simpa [nrfs, mapRs] using k
    obtain ⟨k1, k2⟩ := Bool.and_eq_true_iff.mp k
    exact ⟨v, r, e, mapR_dv hn hg k1 h1, mapRs_dv hn hg k2 h2⟩
end
theorem map_dv {f : D → D} (hf : ∀ {d v}, nrf (f d) = true → DV U G H d v → DV U Gt H (f d) v) : ∀ {ds : List D} {vs : List V}, nrfs (ds.map f) = true → DVs U G H ds vs → DVs U Gt H (ds.map f) vs
  | [], _, _, h => h
  | d :: ds, _, k, ⟨v, r, e, h1, h2⟩ => by
    have k : (nrf (f d) && nrfs (ds.map f)) = true := by simpa [nrfs] using k
    obtain ⟨k1, k2⟩ := Bool.and_eq_true_iff.mp k
    exact ⟨v, r, e, hf k1 h1, map_dv hf k2 h2⟩
theorem fz_dv {S : Sto} (rs : RelS U G S H) (hn : ∀ a, NS G a → NS Gt a) (hi : ∀ n, n < G.n → NS Gt (G.ι n)) : ∀ (k : Nat) {d : D} {v : V}, nrf (fz k S d) = true → DV U G H d v → DV U Gt H (fz k S d) v
  | 0, _, _, h, q => nrf_dv hn h q
  | k + 1, _, _, h, q => mapR_dv hn (fun n hl hr => by
      cases e : S.get n with
      | none => rw [e] at hr; simp [nrf] at hr
      | some o =>
        rw [e] at hr
        have z := rs.at_ n o e
        cases o with
        | lst ds =>
          obtain ⟨vs, e1, q⟩ := z
          exact ⟨_, vs, rfl, ⟨.inl e1, hi n hl⟩, map_dv (fun h q => fz_dv rs hn hi k h q) (by simpa [nrf] using hr) q⟩
        | dct ks zs =>
          obtain ⟨kvs, e1, q1, q⟩ := z
          exact ⟨_, kvs, rfl, ⟨e1, hi n hl⟩, q1, map_dv (fun h q => fz_dv rs hn hi k h q) (by simpa [nrf] using hr) q⟩
        | dcn ks zs =>
          obtain ⟨xs, e1, q1, q3, q⟩ := z
          have hr : (nrfs ks && nrfs (zs.map (fz k S))) = true := by simpa [nrf] using hr
          obtain ⟨k1, k2⟩ := Bool.and_eq_true_iff.mp hr
          exact ⟨_, xs, rfl, ⟨e1, hi n hl⟩, q1, nrfs_dv hn k1 q3, map_dv (fun h q => fz_dv rs hn hi k h q) k2 q⟩
        | ins c fs => simp [nrf] at hr
        | bag b => simp [nrf] at hr) h q
mutual
theorem fln_dv (hn : ∀ a xs, Rd H a (.tup xs) → NS Gt a) : ∀ {d : D} {v : V}, fln d = true → DV U G H d v → DV U Gt H d v
  | .non, _, _, h => h
  | .bl _, _, _, h => h
  | .int _, _, _, h => h
  | .str _, _, _, h => h
  | .tup ds, _, k, ⟨a, vs, e, t, h⟩ => ⟨a, vs, e, t.elim (fun t => .inl ⟨t.1, hn _ _ t.1⟩) .inr, flns_dv hn (by simpa [fln] using k) h⟩
  | .lst ds, _, k, _ => by simp [fln] at k
  | .dct ks zs, _, k, _ => by simp [fln] at k
  | .dcn ks zs, _, k, _ => by simp [fln] at k
  | .ref n, _, k, _ => by simp [fln] at k
  | .arg ns, _, k, _ => by simp [fln] at k
theorem flns_dv (hn : ∀ a xs, Rd H a (.tup xs) → NS Gt a) : ∀ {ds : List D} {vs : List V}, flns ds = true → DVs U G H ds vs → DVs U Gt H ds vs
  | [], _, _, h => h
  | d :: ds, _, k, ⟨v, r, e, h1, h2⟩ => by
    have k : (fln d && flns ds) = true := by simpa [flns] using k
    obtain ⟨k1, k2⟩ := Bool.and_eq_true_iff.mp k
    exact ⟨v, r, e, fln_dv hn k1 h1, flns_dv hn k2 h2⟩
end
end

/-! ### what a def does, as a function -/
abbrev Fn := List D → Sto → R D
def spV (U : Wd) (n : Nat) (F : Fn) : Sp := fun vs H Q E => vs.length = n ∧ ∃ G S ds, RelS U G S H ∧ DVs U G H ds vs ∧ Go (DV U) U (fun cls dd _ H' => E cls dd H') [] G H (F ds S) Q
/-- arguments without references, the def's own store, the result taken out of it -/
def fnA (F : Fn) : Fn := fun ds S => if nrfs ds = true then (match F ds Sto.nil with
  | .ok d S1 => let d' := if nrf d = true then d else fz 6 S1 d
    if nrf d' = true then .ok d' S else .bad
  | .ex x _ => if nrfs (x.fs.map (·.2)) = true then .ex x S else .bad
  | .bad => .bad) else .bad
/-- arguments as they stand, the result without lists -/
def fnB (F : Fn) : Fn := fun ds S => let ds' := if nrfs ds = true then ds else ds.map (fz 6 S)
  if nrfs ds' = true then (match F ds' Sto.nil with
  | .ok d _ => if fln d = true then .ok d S else .bad
  | .ex x _ => if flns (x.fs.map (·.2)) = true then .ex x S else .bad
  | .bad => .bad) else .bad
theorem relS_nil {U : Wd} {G : Gh} {H : Hp} (hn : G.n = 0) (hh : ∀ a, G.hid a → ∃ u, H a = Option.some u ∧ chg u = true) : RelS U G Sto.nil H where
  wf := rfl
  n := hn
  at_ := fun i o e => by unfold Sto.get Sto.nil at e; simp at e
  inj := fun i j h => by rw [hn] at h; omega
  hid := hh
  dis := fun i h => by rw [hn] at h; omega
/-- behind a step from a ghost without a store: all stays -/
theorem step_of0 {U : Wd} {G G0 G1 : Gh} {S : Sto} {H H1 : Hp} (rs : RelS U G S H) (s : Step G0 H G1 H1) (hk : ∀ a, NS G0 a ∨ G0.hid a) : Step G H G H1 ∧ RelS U G S H1 := by
  have keep : ∀ a o, H a = some o → H1 a = some o := fun a o e => s.keep a o e (hk a)
  have st : Step G H G H1 := ⟨fun a o e _ => keep a o e, fun _ h => h, fun _ h => .inl h, Nat.le_refl _, fun _ _ => rfl, fun i h1 h2 => absurd h2 (Nat.not_lt.mpr h1), fun i _ ⟨o, e⟩ => ⟨o, keep _ _ e⟩⟩
  refine ⟨st, rs.wf, rs.n, fun i o e => ?_, rs.inj, fun a z => ?_, rs.dis⟩
  · have z := rs.at_ i o e
    obtain ⟨u, hu, _⟩ := z.some
    exact z.mono st ((keep _ _ hu).trans hu.symm)
  · obtain ⟨u, hu, c⟩ := rs.hid a z
    exact ⟨u, keep _ _ hu, c⟩
theorem map_snd_eq {α β : Type} {l : List (α × β)} : l.map (·.2) = (l.map (·.2)) := rfl
theorem spV_A {U : Wd} {n : Nat} {F : Fn} {vs : List V} {H : Hp} {Q : VK} {E : XK} (h : spV U n (fnA F) vs H Q E) : spV U n F vs H Q E := by
  obtain ⟨hl, G, S, ds, rs, q, g⟩ := h
  unfold fnA at g
  split at g
  · rename_i hnr
    have hk : ∀ a, NS (⟨0, fun _ => 0, fun a => G.hid a ∨ ∃ i, i < G.n ∧ G.ι i = a⟩ : Gh) a ∨ (G.hid a ∨ ∃ i, i < G.n ∧ G.ι i = a) := fun a => by
      by_cases z : (G.hid a ∨ ∃ i, i < G.n ∧ G.ι i = a)
      · exact .inr z
      · exact .inl ⟨fun i hi => absurd hi (Nat.not_lt_zero i), z⟩
    have n1 : ∀ a, NS G a → NS (⟨0, fun _ => 0, fun a => G.hid a ∨ ∃ i, i < G.n ∧ G.ι i = a⟩ : Gh) a := fun a z => ⟨fun i hi => absurd hi (Nat.not_lt_zero i), fun w => w.elim z.2 fun ⟨i, hi, e⟩ => z.1 i hi e⟩
    refine ⟨hl, ⟨0, fun _ => 0, fun a => G.hid a ∨ ∃ i, i < G.n ∧ G.ι i = a⟩, Sto.nil, ds, relS_nil rfl (fun a z => ?_), nrfs_dv n1 hnr q, ?_⟩
    · rcases z with z | ⟨i, hi, e⟩
      · exact rs.hid a z
      · rw [← e]; exact rs.some hi
    · cases e : F ds Sto.nil with
      | bad => rw [e] at g; exact g.elim
      | ok d S1 =>
        rw [e] at g
        dsimp only at g
        intro G1 v H1 s r dv
        obtain ⟨st, rs1⟩ := step_of0 rs s hk
        have n2 : ∀ a, NS G1 a → NS G a := fun a z => by
          have z2 : ¬ (G.hid a ∨ ∃ i, i < G.n ∧ G.ι i = a) := fun w => z.2 (s.hid a w)
          exact ⟨fun i hi e => z2 (.inr ⟨i, hi, e⟩), fun w => z2 (.inl w)⟩
        have n3 : ∀ i, i < G1.n → NS G (G1.ι i) := fun i hi => rs.ns (s.new i (Nat.zero_le _) hi)
        by_cases hd : nrf d = true
        · rw [if_pos hd, if_pos hd] at g
          exact g G v H1 st rs1 (nrf_dv n2 hd dv)
        · rw [if_neg hd] at g
          by_cases hf : nrf (fz 6 S1 d) = true
          · rw [if_pos hf] at g
            exact g G v H1 st rs1 (fz_dv r n2 n3 6 hf dv)
          · rw [if_neg hf] at g; exact g.elim
      | ex x S1 =>
        rw [e] at g
        dsimp only at g
        by_cases hx : nrfs (x.fs.map (·.2)) = true
        · rw [if_pos hx] at g
          intro G1 H1 cls dd s r xv
          obtain ⟨st, rs1⟩ := step_of0 rs s hk
          have n2 : ∀ a, NS G1 a → NS G a := fun a z => by
            have z2 : ¬ (G.hid a ∨ ∃ i, i < G.n ∧ G.ι i = a) := fun w => z.2 (s.hid a w)
            exact ⟨fun i hi e => z2 (.inr ⟨i, hi, e⟩), fun w => z2 (.inl w)⟩
          refine g G H1 cls dd st rs1 ?_
          obtain ⟨C, h1, h2, h3⟩ := xv
          refine ⟨C, h1, h2, h3.elim .inl fun ⟨d, fvs, a1, a2, a3, a4, a5⟩ => .inr ⟨d, fvs, a1, a2, n2 _ a3, a4, nrfs_dv n2 hx a5⟩⟩
        · rw [if_neg hx] at g; exact g.elim
  · exact g.elim
theorem RelS.ns_of {U : Wd} {G : Gh} {S : Sto} {H : Hp} (r : RelS U G S H) {p : Addr} {u : HO} (h : H p = Option.some u) (hu : chg u = false) : NS G p := by
  refine ⟨fun i hi e => ?_, fun z => ?_⟩
  · obtain ⟨w, q, m⟩ := r.some hi
    rw [e, h] at q; cases q; rw [hu] at m; cases m
  · obtain ⟨w, q, m⟩ := r.hid p z
    rw [h] at q; cases q; rw [hu] at m; cases m
theorem spV_B {U : Wd} {n : Nat} {F : Fn} {vs : List V} {H : Hp} {Q : VK} {E : XK} (h : spV U n (fnB F) vs H Q E) : spV U n F vs H Q E := by
  obtain ⟨hl, G, S, ds, rs, q, g⟩ := h
  unfold fnB at g
  have hns : ∀ a, NS (⟨0, fun _ => 0, fun _ => False⟩ : Gh) a := fun a => ⟨fun i hi => absurd hi (Nat.not_lt_zero i), fun z => z⟩
  obtain ⟨ds', eds, q'⟩ : ∃ ds', ds' = (if nrfs ds = true then ds else ds.map (fz 6 S)) ∧ (nrfs ds' = true → DVs U (⟨0, fun _ => 0, fun _ => False⟩ : Gh) H ds' vs) := by
    refine ⟨_, rfl, fun h => ?_⟩
    by_cases hn : nrfs ds = true
    · rw [if_pos hn] at h ⊢; exact nrfs_dv (fun a _ => hns a) h q
    · rw [if_neg hn] at h ⊢; exact map_dv (fun h q => fz_dv rs (fun a _ => hns a) (fun i _ => hns _) 6 h q) h q
  rw [← eds] at g
  dsimp only at g
  split at g
  · rename_i hnr
    refine ⟨hl, ⟨0, fun _ => 0, fun _ => False⟩, Sto.nil, ds', relS_nil rfl (fun a z => z.elim), q' hnr, ?_⟩
    cases e : F ds' Sto.nil with
    | bad => rw [e] at g; exact g.elim
    | ok d S1 =>
      rw [e] at g
      dsimp only at g
      by_cases hd : fln d = true
      · rw [if_pos hd] at g
        intro G1 v H1 s r dv
        obtain ⟨st, rs1⟩ := step_of0 rs s fun a => .inl (hns a)
        exact g G v H1 st rs1 (fln_dv (fun a xs => rs1.ns_tup) hd dv)
      · rw [if_neg hd] at g; exact g.elim
    | ex x S1 =>
      rw [e] at g
      dsimp only at g
      by_cases hx : flns (x.fs.map (·.2)) = true
      · rw [if_pos hx] at g
        intro G1 H1 cls dd s r xv
        obtain ⟨st, rs1⟩ := step_of0 rs s fun a => .inl (hns a)
        refine g G H1 cls dd st rs1 ?_
        obtain ⟨C, h1, h2, h3⟩ := xv
        exact ⟨C, h1, h2, h3.elim .inl fun ⟨d, fvs, a1, a2, a3, a4, a5⟩ => .inr ⟨d, fvs, a1, a2, rs1.ns_of a2 rfl, a4, flns_dv (fun a xs => rs1.ns_tup) hx a5⟩⟩
      · rw [if_neg hx] at g; exact g.elim
  · exact g.elim

/-- a def -/
def FS (P : Program) (w : World) (K : PySem.W.Frag) (mg : Str → Option Value) (base : Heap) (k : Nat) (f : Addr) (fd : FuncData) (ps : List Str) (F : Fn) : Prop := FnG P w K mg base (L2.CX P w) k f fd ps (spV ⟨P, w, K, mg⟩ ps.length F)
section
variable {P : Program} {w : World} {K : PySem.W.Frag} {mg : Str → Option Value} {base : Heap} {j k : Nat} {f : Addr} {fd : FuncData} {ps : List Str} {F : Fn}
theorem FS.mono (h : FS P w K mg base j f fd ps F) (l : j ≤ k) : FS P w K mg base k f fd ps F := FnG.mono h l
theorem FS.A (h : FS P w K mg base k f fd ps F) : FS P w K mg base k f fd ps (fnA F) := FnG.imp h fun _ _ _ _ => spV_A
theorem FS.B (h : FS P w K mg base k f fd ps F) : FS P w K mg base k f fd ps (fnB F) := FnG.imp h fun _ _ _ _ => spV_B
/-- a def that answers as one says who can tell it by each store -/
theorem FS.imp {F' : Fn} (h : FS P w K mg base k f fd ps F) (i : ∀ ds S, F' ds S = .bad ∨ F' ds S = F ds S) : FS P w K mg base k f fd ps F' := FnG.imp h fun vs H Q E ⟨hl, G, S, ds, rs, q, g⟩ => ⟨hl, G, S, ds, rs, q, by
  rcases i ds S with e | e
  · rw [e] at g; exact g.elim
  · rw [e] at g; exact g⟩
end
theorem go_call {U : Wd} {W : WX} {σ : L2.St} {G : Gh} {H : Hp} {r : R D} {Q : VK} (g : GoD U W σ G H r Q) : Go (DV U) U (fun cls dd _ H' => WE W σ cls dd H') [] G H r Q := by
  cases r with
  | ok d S => exact g
  | ex x S => exact g
  | bad => exact g
section
variable {X : Cx} {pos : Pos}
def eCall (n : Nat) (F : Fn) (ma : As) : E := fun ρ S => (ma ρ S).bind fun ds S => if ds.length = n then F ds S else .bad
theorem ce_call {k : Nat} {f : Addr} {fd : FuncData} {ps : List Str} {F : Fn} {x : Str} {p : Pos} {e : Expr} {es : List Expr} {ma : As} (hF : FS X.prog X.w X.K X.mg X.base k f fd ps F) (hr : Room k X.A) (hgd : X.A.guards = some []) (hg : Gl X x) (hm : X.mg x = some (.ref f)) (hk : PySem.W.keepIn X.K (.ref f) = true) (hb : Binds X.K fd ps [])
    (ha : CA X (e :: es) ma) (hdb : (x == ("__debug__" : Str)) = false := by decide) (he : starEach (e :: es) X.env = (false, eval e X.env) :: starEach es X.env := by rfl) (hpl : (backTo pos (starEach es X.env)).any (·.1) = false := by rfl) :
    CE X (.Call (.Name x p) (e :: es) [] pos) (eCall ps.length F ma) := fun W tk => PE.imp (pe_callG (E := WE W) hF hr hgd hg hm hk hb (fun σ => passAt tk σ) (ha W tk) hdb he hpl) fun σ H Q ⟨G, ρ, S, rs, re, h⟩ => by
  obtain ⟨G0, ρ0, S0, a, b, c⟩ := tAv.bind rs re h
  refine ⟨G0, ρ0, S0, a, b, Go.mono c fun vs H1 ⟨G1, ds, S1, s, rs1, re1, dvs, g⟩ => ?_⟩
  split at g
  · rename_i hl
    exact ⟨by rw [dvs.length]; exact hl, G1, S1, ds, rs1, dvs, go_call g⟩
  · exact g.elim
/-! ### built-ins by name -/
def rL (U : Wd) (g : Fn) (W : WX) (σ : L2.St) : List V → Hp → VK → Prop := fun xs H Q => ∃ G S ds, RelS U G S H ∧ DVs U G H ds xs ∧ GoD U W σ G H (g ds S) Q
def CB (X : Cx) (f : Value) (g : Fn) : Prop := ∀ W σ, CallR X f (rL (wd X) g W σ)
def eB (g : Fn) (ma : As) : E := fun ρ S => (ma ρ S).bind fun ds S => g ds S
theorem eB_reads {U : Wd} {g : Fn} {ma : As} {W : WX} {σ : L2.St} {H : Hp} {Q : VK} (h : tEv U (eB g ma) W σ H Q) : tAv U ma W σ H fun vs H1 => rL U g W σ vs H1 Q := by
  obtain ⟨G, ρ, S, rs, re, h⟩ := h
  obtain ⟨G0, ρ0, S0, a, b, c⟩ := tAv.bind rs re h
  exact ⟨G0, ρ0, S0, a, b, Go.mono c fun vs H1 ⟨G1, ds, S1, s, rs1, re1, dvs, g⟩ => ⟨G1, S1, ds, rs1, dvs, g⟩⟩
/-- what a built-in is asked may hang on the frame's own exceptions: a fixed wish serves -/
theorem CallR.at {f : Value} {r : L2.St → List V → Hp → VK → Prop} (h : ∀ σ, CallR X f (r σ)) {pins : List (Addr × Obj)} {s : Shared} {σ : L2.St} {H : Hp} {xs : List V} {us : List Value} {Q : VK} (I : Inv X pins σ H s) (rv : Vals xs us) (q : r σ xs H Q) :
    wpAny (model X.prog X.w) X.A (call f us) (EP X pins σ Q) X.xe s := h σ pins s σ H xs us Q I rv q
theorem ce_B {id : String} {x : Str} {g : Fn} {p : Pos} {e : Expr} {es : List Expr} {ma : As} (hc : CB X (.builtin id) g) (hg : Gl X x) (hm : X.mg x = none) (hv : bootBuiltins x = some (.builtin id)) (ha : CA X (e :: es) ma) (hn : x ≠ "__name__" := by decide) (hdb : (x == ("__debug__" : Str)) = false := by decide) (he : starEach (e :: es) X.env = (false, eval e X.env) :: starEach es X.env := by rfl) (hpl : (backTo pos (starEach es X.env)).any (·.1) = false := by rfl) :
    CE X (.Call (.Name x p) (e :: es) [] pos) (eB g ma) := fun W tk => ⟨fun pins s σ H Q I h => (pe_callB (hc W σ) hg hm hv (ha W tk) hn hdb he hpl).run pins s σ H Q I (eB_reads h)⟩
theorem ce_Ty {T : String} {x : Str} {g : Fn} {p : Pos} {e : Expr} {es : List Expr} {ma : As} (hc : CB X (.type T) g) (hg : Gl X x) (hm : X.mg x = none) (hv : bootBuiltins x = some (.type T)) (ha : CA X (e :: es) ma) (hn : x ≠ "__name__" := by decide) (hdb : (x == ("__debug__" : Str)) = false := by decide) (he : starEach (e :: es) X.env = (false, eval e X.env) :: starEach es X.env := by rfl) (hpl : (backTo pos (starEach es X.env)).any (·.1) = false := by rfl) :
    CE X (.Call (.Name x p) (e :: es) [] pos) (eB g ma) := fun W tk => ⟨fun pins s σ H Q I h => (pe_callTy (hc W σ) hg hm hv (ha W tk) hn hdb he hpl).run pins s σ H Q I (eB_reads h)⟩
end
end Z

/-! Z8: statements. -/
namespace Z
open PySem PySem.Spec PyProof.Rows L2

def GoS (U : Wd) (W : WX) (G : Gh) (H : Hp) (r : RS) (D : Ends) : Prop := match r with
  | .nx ρ S => ∀ G' σ' H', Step G H G' H' → RelS U G' S H' → RelE U G' ρ σ' H' → D.nx σ' H'
  | .bk ρ S => ∀ G' σ' H', Step G H G' H' → RelS U G' S H' → RelE U G' ρ σ' H' → D.bk σ' H'
  | .ct ρ S => ∀ G' σ' H', Step G H G' H' → RelS U G' S H' → RelE U G' ρ σ' H' → D.ct σ' H'
  | .rt d S => ∀ G' v H', Step G H G' H' → RelS U G' S H' → DV U G' H' d v → D.rt v H'
  | .ex x ρ S => ∀ G' σ' H' cls dd, Step G H G' H' → RelS U G' S H' → RelE U G' ρ σ' H' → XV U G' H' x cls dd → W cls dd σ' H'
  | .bad => False
theorem GoS.step {U : Wd} {W : WX} {G G1 : Gh} {H H1 : Hp} {r : RS} {D : Ends} (s : Step G H G1 H1) (h : GoS U W G H r D) : GoS U W G1 H1 r D := by
  cases r with
  | nx ρ S => exact fun G' σ' H' s' => h G' σ' H' (s.trans s')
  | bk ρ S => exact fun G' σ' H' s' => h G' σ' H' (s.trans s')
  | ct ρ S => exact fun G' σ' H' s' => h G' σ' H' (s.trans s')
  | rt d S => exact fun G' v H' s' => h G' v H' (s.trans s')
  | ex x ρ S => exact fun G' σ' H' c dd s' => h G' σ' H' c dd (s.trans s')
  | bad => exact h
theorem RelE.set {U : Wd} {G : Gh} {ρ : Env} {σ : L2.St} {H : Hp} {d : D} {v : V} (re : RelE U G ρ σ H) (i : Nat) (q : DV U G H d v) : RelE U G (ρ.set i (some d)) (σ.set i (some v)) H := by
  refine ⟨by rw [List.length_set, List.length_set]; exact re.1, fun j e h => ?_⟩
  rw [List.getElem?_set] at h ⊢
  by_cases hj : i = j
  · rw [if_pos hj] at h ⊢
    by_cases hl : i < ρ.length
    · rw [if_pos hl] at h
      rw [if_pos (by rw [← re.1]; exact hl)]
      cases h
      exact ⟨v, rfl, q⟩
    · rw [if_neg hl] at h; cases h
  · rw [if_neg hj] at h ⊢
    exact re.2 j e h
def tSv (U : Wd) (m : C) (W : WX) : TS := fun D σ H => ∃ G ρ S, RelS U G S H ∧ RelE U G ρ σ H ∧ GoS U W G H (m ρ S) D
def CS (X : Cx) (st : Stmt) (m : C) : Prop := ∀ W, Takes X W → PS X st (tSv (wd X) m W)
def CSs (X : Cx) (sts : List Stmt) (m : C) : Prop := ∀ W, Takes X W → PSs X sts (tSv (wd X) m W)
theorem PS.imp {X : Cx} {e : Stmt} {t t' : TS} (h : PS X e t) (i : ∀ D σ H, t' D σ H → t D σ H) : PS X e t' := ⟨fun p s σ H D I q => h.run p s σ H D I (i D σ H q)⟩
theorem PSs.imp {X : Cx} {e : List Stmt} {t t' : TS} (h : PSs X e t) (i : ∀ D σ H, t' D σ H → t D σ H) : PSs X e t' := ⟨fun p s σ H D I q => h.run p s σ H D I (i D σ H q)⟩

/-- a result's value, then a statement -/
def R.toS {α : Type} (r : R α) (ρ : Env) (k : α → Sto → RS) : RS := match r with
  | .ok a S => k a S
  | .ex x S => .ex x ρ S
  | .bad => .bad
theorem GoS.bind {α α' : Type} {rel : Gh → Hp → α → α' → Prop} {U : Wd} {W : WX} {σ : L2.St} {G : Gh} {H : Hp} {ρ : Env} {r : R α} {k : α → Sto → RS} {D : Ends} (re : RelE U G ρ σ H) (h : GoS U W G H (r.toS ρ k) D) :
    Go rel U W σ G H r (fun v H1 => ∃ G1 a S1, Step G H G1 H1 ∧ RelS U G1 S1 H1 ∧ RelE U G1 ρ σ H1 ∧ rel G1 H1 a v ∧ GoS U W G1 H1 (k a S1) D) := by
  cases r with
  | ok d S => exact fun G' v H' s r q => ⟨G', d, S, s, r, re.mono s, q, GoS.step s h⟩
  | ex x S => exact fun G' H' c dd s r q => h G' σ H' c dd s r (re.mono s) q
  | bad => exact h
theorem tEv.toS {U : Wd} {m : E} {W : WX} {σ : L2.St} {H : Hp} {G : Gh} {ρ : Env} {S : Sto} {k : D → Sto → RS} {D : Ends} (rs : RelS U G S H) (re : RelE U G ρ σ H) (h : GoS U W G H ((m ρ S).toS ρ k) D) :
    tEv U m W σ H (fun v H1 => ∃ G1 a S1, Step G H G1 H1 ∧ RelS U G1 S1 H1 ∧ RelE U G1 ρ σ H1 ∧ DV U G1 H1 a v ∧ GoS U W G1 H1 (k a S1) D) := ⟨G, ρ, S, rs, re, GoS.bind re h⟩
theorem tTv.toS {U : Wd} {m : T} {W : WX} {σ : L2.St} {H : Hp} {G : Gh} {ρ : Env} {S : Sto} {k : Bool → Sto → RS} {D : Ends} (rs : RelS U G S H) (re : RelE U G ρ σ H) (h : GoS U W G H ((m ρ S).toS ρ k) D) :
    tTv U m W σ H (fun b H1 => ∃ G1 S1, Step G H G1 H1 ∧ RelS U G1 S1 H1 ∧ RelE U G1 ρ σ H1 ∧ GoS U W G1 H1 (k b S1) D) :=
  ⟨G, ρ, S, rs, re, Go.mono (GoS.bind (rel := relB) re h) fun v H1 ⟨G1, a, S1, s, r, e, q, g⟩ => ⟨G1, S1, s, r, e, by cases (show a = v from q); exact g⟩⟩
theorem tAv.toS {U : Wd} {m : As} {W : WX} {σ : L2.St} {H : Hp} {G : Gh} {ρ : Env} {S : Sto} {k : List D → Sto → RS} {D : Ends} (rs : RelS U G S H) (re : RelE U G ρ σ H) (h : GoS U W G H ((m ρ S).toS ρ k) D) :
    tAv U m W σ H (fun v H1 => ∃ G1 a S1, Step G H G1 H1 ∧ RelS U G1 S1 H1 ∧ RelE U G1 ρ σ H1 ∧ DVs U G1 H1 a v ∧ GoS U W G1 H1 (k a S1) D) := ⟨G, ρ, S, rs, re, GoS.bind (rel := relA U) re h⟩

section
variable {X : Cx} {pos : Pos} {W : WX}
theorem GoS.nx_ {U : Wd} {G : Gh} {H : Hp} {ρ : Env} {S : Sto} {D : Ends} {σ : L2.St} (h : GoS U W G H (.nx ρ S) D) (rs : RelS U G S H) (re : RelE U G ρ σ H) : D.nx σ H := h G σ H Step.refl rs re
/-! ### rows -/
def sNx : C := fun ρ S => .nx ρ S
def sBad : C := fun _ _ => .bad
def sSeq (a b : C) : C := fun ρ S => match a ρ S with
  | .nx ρ' S' => b ρ' S'
  | r => r
theorem css_nil : CSs X [] sNx := fun W tk => PSs.imp pss_nil fun D σ H ⟨G, ρ, S, rs, re, h⟩ => GoS.nx_ h rs re
theorem sSeq_reads {U : Wd} {a b : C} {D : Ends} {σ : L2.St} {H : Hp} (h : tSv U (sSeq a b) W D σ H) : tSv U a W { D with nx := tSv U b W D } σ H := by
  obtain ⟨G, ρ, S, rs, re, h⟩ := h
  refine ⟨G, ρ, S, rs, re, ?_⟩
  unfold sSeq at h
  cases e : a ρ S with
  | nx ρ' S' => rw [e] at h; exact fun G' σ' H' s r q => ⟨G', ρ', S', r, q, GoS.step s h⟩
  | rt d S' => rw [e] at h; exact h
  | bk ρ' S' => rw [e] at h; exact h
  | ct ρ' S' => rw [e] at h; exact h
  | ex x ρ' S' => rw [e] at h; exact h
  | bad => rw [e] at h; exact h
theorem css_cons {st : Stmt} {sts : List Stmt} {a b : C} (ha : CS X st a) (hb : CSs X sts b) : CSs X (st :: sts) (sSeq a b) := fun W tk => PSs.imp (pss_cons (ha W tk) (hb W tk)) fun D σ H h => sSeq_reads h
theorem css_one {st : Stmt} {a : C} (ha : CS X st a) : CSs X [st] a := fun W tk => pss_one (ha W tk)
theorem cs_bad {st : Stmt} : CS X st sBad := fun W tk => PS.imp ps_never fun D σ H ⟨G, ρ, S, rs, re, h⟩ => h
theorem css_bad {sts : List Stmt} : CSs X sts sBad := fun W tk => PSs.imp pss_never fun D σ H ⟨G, ρ, S, rs, re, h⟩ => h
theorem cs_pass : CS X (.Pass pos) sNx := fun W tk => PS.imp ps_pass fun D σ H ⟨G, ρ, S, rs, re, h⟩ => GoS.nx_ h rs re
def sBk : C := fun ρ S => .bk ρ S
def sCt : C := fun ρ S => .ct ρ S
theorem cs_break : CS X (.Break pos) sBk := fun W tk => PS.imp ps_break fun D σ H ⟨G, ρ, S, rs, re, h⟩ => h G σ H Step.refl rs re
theorem cs_continue : CS X (.Continue pos) sCt := fun W tk => PS.imp ps_continue fun D σ H ⟨G, ρ, S, rs, re, h⟩ => h G σ H Step.refl rs re
/-! ### plain statements -/
def sE (m : E) : C := fun ρ S => (m ρ S).toS ρ fun _ S => .nx ρ S
def sRet (m : E) : C := fun ρ S => (m ρ S).toS ρ fun d S => .rt d S
def sRetN : C := fun _ S => .rt .non S
def sSet (i : Nat) (m : E) : C := fun ρ S => (m ρ S).toS ρ fun d S => .nx (ρ.set i (some d)) S
def sIf (t : T) (a b : C) : C := fun ρ S => (t ρ S).toS ρ fun c S => if c = true then a ρ S else b ρ S
theorem cs_expr {e : Expr} {m : E} (he : CE X e m) (hs : swapsWith e none pos.line X.env = pure false := by rfl) : CS X (.Expr e pos) (sE m) := fun W tk => PS.imp (ps_expr (he W tk) hs) fun D σ H ⟨G, ρ, S, rs, re, h⟩ => by
  obtain ⟨G0, ρ0, S0, a, b, c⟩ := tEv.toS rs re h
  exact ⟨G0, ρ0, S0, a, b, Go.mono c fun v H1 ⟨G1, d, S1, s, rs1, re1, dv, g⟩ => GoS.nx_ g rs1 re1⟩
theorem cs_ret {e : Expr} {m : E} (he : CE X e m) : CS X (.Return (some e) pos) (sRet m) := fun W tk => PS.imp (ps_ret (he W tk)) fun D σ H ⟨G, ρ, S, rs, re, h⟩ => by
  obtain ⟨G0, ρ0, S0, a, b, c⟩ := tEv.toS rs re h
  exact ⟨G0, ρ0, S0, a, b, Go.mono c fun v H1 ⟨G1, d, S1, s, rs1, re1, dv, g⟩ => g G1 v H1 Step.refl rs1 dv⟩
theorem cs_retN : CS X (.Return none pos) sRetN := fun W tk => PS.imp ps_retN fun D σ H ⟨G, ρ, S, rs, re, h⟩ => h G .non H Step.refl rs rfl
theorem cs_set (i : Nat) {x : Str} {e : Expr} {m : E} {pos' : Pos} (hN : X.N.Nodup) (he : CE X e m) (hi : X.N[i]? = some x := by rfl) (hx : Loc X.env.scope x := by first | exact .inl rfl | exact .inr rfl) (hs : swapsWith e (some (.Name x pos')) pos.line X.env = pure false := by rfl) (hf : X.fn x = true ∨ X.env.scope.names.lookup x = some .local := by first | exact .inr rfl | exact .inl rfl) : CS X (.Assign [.Name x pos'] e pos) (sSet i m) := fun W tk =>
  PS.imp (ps_set hN hi hx (he W tk) hs hf) fun D σ H ⟨G, ρ, S, rs, re, h⟩ => by
    obtain ⟨G0, ρ0, S0, a, b, c⟩ := tEv.toS rs re h
    exact ⟨G0, ρ0, S0, a, b, Go.mono c fun v H1 ⟨G1, d, S1, s, rs1, re1, dv, g⟩ => GoS.nx_ g rs1 (re1.set i dv)⟩
theorem cs_if {e : Expr} {p q : List Stmt} {t : T} {a b : C} (he : CT X e t) (ha : CSs X p a) (hb : CSs X q b) : CS X (.If e p q pos) (sIf t a b) := fun W tk => PS.imp (ps_if (he W tk) (ha W tk) (hb W tk)) fun D σ H ⟨G, ρ, S, rs, re, h⟩ => by
  obtain ⟨G0, ρ0, S0, x, y, z⟩ := tTv.toS rs re h
  refine ⟨G0, ρ0, S0, x, y, Go.mono z fun v H1 ⟨G1, S1, s, rs1, re1, g⟩ => ?_⟩
  by_cases e : v = true
  · rw [if_pos e] at g ⊢; exact ⟨G1, ρ, S1, rs1, re1, g⟩
  · rw [if_neg e] at g ⊢; exact ⟨G1, ρ, S1, rs1, re1, g⟩

/-! ### targets -/
abbrev Tg := D → Env → Sto → Option Env
/-- only the slots at sl may differ -/
def Diff (sl : List Nat) (σ σ' : L2.St) : Prop := σ'.length = σ.length ∧ ∀ i, i ∉ sl → σ'[i]? = σ[i]?
theorem Diff.refl {sl : List Nat} {σ : L2.St} : Diff sl σ σ := ⟨rfl, fun _ _ => rfl⟩
theorem Diff.trans {a b : List Nat} {σ σ1 σ2 : L2.St} (h : Diff a σ σ1) (k : Diff b σ1 σ2) : Diff (a ++ b) σ σ2 :=
  ⟨k.1.trans h.1, fun i hi => (k.2 i fun z => hi (List.mem_append_right _ z)).trans (h.2 i fun z => hi (List.mem_append_left _ z))⟩
def okT (U : Wd) (sl : List Nat) (σ : L2.St) (G : Gh) (H : Hp) (r : Option Env) (Q : L2.St → Hp → Prop) : Prop := match r with
  | some ρ' => ∀ σ', RelE U G ρ' σ' H → Diff sl σ σ' → Q σ' H
  | none => False
def tGv (U : Wd) (sl : List Nat) (g : Tg) : TG := fun v σ H Q => ∃ G ρ S d, RelS U G S H ∧ RelE U G ρ σ H ∧ DV U G H d v ∧ okT U sl σ G H (g d ρ S) Q
abbrev Tgs := List D → Env → Sto → Option Env
def tGsv (U : Wd) (sl : List Nat) (g : Tgs) : TGs := fun vs σ H Q => ∃ G ρ S ds, RelS U G S H ∧ RelE U G ρ σ H ∧ DVs U G H ds vs ∧ okT U sl σ G H (g ds ρ S) Q
def CG (X : Cx) (tg : Expr) (sl : List Nat) (g : Tg) : Prop := PG X tg (tGv (wd X) sl g)
def CGs (X : Cx) (tgs : List Expr) (sl : List Nat) (g : Tgs) : Prop := PGs X tgs (tGsv (wd X) sl g)
theorem PG.imp {X : Cx} {e : Expr} {t t' : TG} (h : PG X e t) (i : ∀ v σ H Q, t' v σ H Q → t v σ H Q) : PG X e t' := ⟨fun p s σ H v u Q I r q => h.run p s σ H v u Q I r (i v σ H Q q)⟩
theorem PGs.imp {X : Cx} {e : List Expr} {t t' : TGs} (h : PGs X e t) (i : ∀ v σ H Q, t' v σ H Q → t v σ H Q) : PGs X e t' := ⟨fun p s σ H v u Q I r q => h.run p s σ H v u Q I r (i v σ H Q q)⟩
def gN (i : Nat) : Tg := fun d ρ _ => some (ρ.set i (some d))
def gsNil : Tgs := fun ds ρ _ => match ds with
  | [] => some ρ
  | _ => none
def gsCons (g : Tg) (gs : Tgs) : Tgs := fun ds ρ S => match ds with
  | d :: ds => (match g d ρ S with
    | some ρ' => gs ds ρ' S
    | none => none)
  | [] => none
/-- a tuple (or a list) of so many -/
def gT (n : Nat) (gs : Tgs) : Tg := fun d ρ S => match rd S d with
  | .tup ds => if ds.length = n then gs ds ρ S else none
  | _ => none
theorem cg_name (i : Nat) {x : Str} (hN : X.N.Nodup) (hi : X.N[i]? = some x := by rfl) (hx : Loc X.env.scope x := by first | exact .inl rfl | exact .inr rfl) (hf : X.fn x = true ∨ X.env.scope.names.lookup x = some .local := by first | exact .inr rfl | exact .inl rfl) : CG X (.Name x pos) [i] (gN i) :=
  PG.imp (pg_name hN hi hx hf) fun v σ H Q ⟨G, ρ, S, d, rs, re, dv, h⟩ => h _ (re.set i dv) ⟨List.length_set, fun j hj => by rw [List.getElem?_set_ne (fun e => hj (by simp [e]))]⟩
theorem cgs_nil : CGs X [] [] gsNil := PGs.imp pgs_nil fun vs σ H Q ⟨G, ρ, S, ds, rs, re, dv, h⟩ => by
  cases ds with
  | nil => exact ⟨dv, h σ re Diff.refl⟩
  | cons d ds => exact h.elim
theorem cgs_cons {tg : Expr} {tgs : List Expr} {sl sl' : List Nat} {g : Tg} {gs : Tgs} (h1 : CG X tg sl g) (h2 : CGs X tgs sl' gs) (hs : (assignEach (tg :: tgs) X.env).map (·.2) = assign tg X.env :: (assignEach tgs X.env).map (·.2) := by rfl) : CGs X (tg :: tgs) (sl ++ sl') (gsCons g gs) :=
  PGs.imp (pgs_cons h1 h2 hs) fun vs σ H Q ⟨G, ρ, S, ds, rs, re, dv, h⟩ => by
    cases ds with
    | nil => exact h.elim
    | cons d ds =>
      obtain ⟨v, r, e, q1, q2⟩ := dv
      refine ⟨v, r, e, G, ρ, S, d, rs, re, q1, ?_⟩
      unfold gsCons at h
      dsimp only at h
      cases e1 : g d ρ S with
      | none => rw [e1] at h; exact h.elim
      | some ρ' =>
        rw [e1] at h
        dsimp only at h
        refine fun σ' re' df => ⟨G, ρ', S, ds, rs, re', q2, ?_⟩
        cases e2 : gs ds ρ' S with
        | none => rw [e2] at h; exact h.elim
        | some ρ2 => rw [e2] at h; exact fun σ2 re2 df2 => h σ2 re2 (df.trans df2)
theorem cg_tup {es : List Expr} {k : Nat} {gs : Tgs} {n : Nat} {sl : List Nat} (hc : X.calm = true) (h : CGs X es sl gs) (hn : (assignEach es X.env).length = n := by rfl) (hst : (assignEach es X.env).findIdx? (·.1) = none := by rfl) : CG X (.Tuple es k pos) sl (gT n gs) :=
  PG.imp (pg_tup hc h hn hst) fun v σ H Q ⟨G, ρ, S, d, rs, re, dv, h⟩ => by
    unfold gT at h
    split at h
    · rename_i ds e
      obtain ⟨a, vs, ev, sq, q⟩ := rd_tup e dv
      by_cases hl : ds.length = n
      · rw [if_pos hl] at h
        exact ⟨a, vs, ev, sq, by rw [q.length]; exact hl, G, ρ, S, ds, rs, re, q, h⟩
      · rw [if_neg hl] at h; exact h.elim
    · exact h.elim
/-- target = value -/
def sAsg (g : Tg) (m : E) : C := fun ρ S => (m ρ S).toS ρ fun d S => match g d ρ S with
  | some ρ' => .nx ρ' S
  | none => .bad
theorem cs_asg {tg e : Expr} {m : E} {g : Tg} {sl : List Nat} (he : CE X e m) (hg : CG X tg sl g) (hs : swapsWithSole [tg] e pos.line X.env = pure false := by rfl) (hw : swappedStores [tg] e X.env = pure none := by rfl) (h1 : (assignEach [tg] X.env).map (·.2) = [assign tg X.env] := by rfl) : CS X (.Assign [tg] e pos) (sAsg g m) := fun W tk =>
  PS.imp (ps_asg (he W tk) hg hs hw h1) fun D σ H ⟨G, ρ, S, rs, re, h⟩ => by
    obtain ⟨G0, ρ0, S0, a, b, c⟩ := tEv.toS rs re h
    refine ⟨G0, ρ0, S0, a, b, Go.mono c fun v H1 ⟨G1, d, S1, s, rs1, re1, dv, g1⟩ => ⟨G1, ρ, S1, d, rs1, re1, dv, ?_⟩⟩
    cases e1 : g d ρ S1 with
    | none => rw [e1] at g1; exact g1.elim
    | some ρ' => rw [e1] at g1; exact fun σ' re' _ => GoS.nx_ g1 rs1 re'
/-- a, b = x, y of plain names -/
def sPar (i j : Nat) (ma : As) : C := fun ρ S => (ma ρ S).toS ρ fun ds S => match ds with
  | [d, e] => .nx ((ρ.set i (some d)).set j (some e)) S
  | _ => .bad
theorem cs_par (i j : Nat) {x y : Str} {a b : Expr} {ma : As} {px py pt : Pos} {kt k2 pt2} (hc : X.calm = true) (hN : X.N.Nodup) (ha : CA X [a, b] ma) (hw : swappedStores [.Tuple [.Name x px, .Name y py] kt pt] (.Tuple [a, b] k2 pt2) X.env = pure (some [x, y]) := by rfl) (hi : X.N[i]? = some x := by rfl) (hj : X.N[j]? = some y := by rfl) (hij : i ≠ j := by decide)
    (hx : X.env.scope.names.lookup x = some .local := by rfl) (hy : X.env.scope.names.lookup y = some .local := by rfl)
    (hs : swapsWithSole [.Tuple [.Name x px, .Name y py] kt pt] (.Tuple [a, b] k2 pt2) pos.line X.env = pure false := by rfl) :
    CS X (.Assign [.Tuple [.Name x px, .Name y py] kt pt] (.Tuple [a, b] k2 pt2) pos) (sPar i j ma) := fun W tk => PS.imp (ps_par hc hN hi hj hij hx hy (ha W tk) hw hs) fun D σ H ⟨G, ρ, S, rs, re, h⟩ => by
  obtain ⟨G0, ρ0, S0, a, b, c⟩ := tAv.toS rs re h
  refine ⟨G0, ρ0, S0, a, b, Go.mono c fun vs H1 ⟨G1, ds, S1, s, rs1, re1, dvs, g⟩ => ?_⟩
  cases ds with
  | nil => exact g.elim
  | cons d ds =>
    cases ds with
    | nil => exact g.elim
    | cons e ds =>
      cases ds with
      | nil =>
        obtain ⟨v, r, e1, q1, w, r2, e2, q2, e3⟩ := dvs
        have e3 : r2 = [] := e3
        subst e3 e2 e1
        exact ⟨v, w, rfl, GoS.nx_ g rs1 ((re1.set i q1).set j q2)⟩
      | cons _ _ => exact g.elim
/-- op= of ints and texts -/
def sAug (i : Nat) (g : D2) (m : E) : C := fun ρ S => match ρ[i]? with
  | some (some a) => (m ρ S).toS ρ fun b S => (g a b S).toS ρ fun d S => .nx (ρ.set i (some d)) S
  | _ => .bad
/-- by values -/
def IpD (X : Cx) (op : Operator) (g : D2) : Prop := ∀ W σ, ∀ (pins : List (Addr × Obj)) (s : Shared) (H : Hp) (x y : V) (v u : Value) (Q : VK), Inv X pins σ H s → RelV x v → RelV y u → rD (wd X) g W σ x y H Q →
    wpAny (model X.prog X.w) X.A (inplaceOp op v u) (EP X pins σ Q) X.xe s
end
end Z

/-! Z9: methods of built-in types, lists changed, loops, defs. -/
namespace Z
open PySem PySem.Spec PyProof.Rows L2

abbrev Mn := D → List D → Sto → R D
def rM (U : Wd) (g : Mn) (W : WX) (σ : L2.St) : V → List V → Hp → VK → Prop := fun x xs H Q => ∃ G S d ds, RelS U G S H ∧ DV U G H d x ∧ DVs U G H ds xs ∧ GoD U W σ G H (g d ds S) Q
def MB (X : Cx) (id : String) (g : Mn) : Prop := ∀ W σ, MtR X id (rM (wd X) g W σ)
/-- of that type -/
abbrev Ty := D → Sto → Bool
def TyOf (X : Cx) (T : String) (ty : Ty) : Prop := ∀ {G : Gh} {S : Sto} {H : Hp} {d : D} {v : V}, RelS (wd X) G S H → DV (wd X) G H d v → ty d S = true → tyV X.K T v H
def tyL : Ty := fun d S => match rd S d with
  | .lst _ => true
  | _ => false
def tyS : Ty := fun d _ => match d with
  | .str _ => true
  | _ => false
def tyDi : Ty := fun d S => match rd S d with
  | .dct _ _ => true
  | _ => false
theorem tyL_of {X : Cx} : TyOf X "list" tyL := fun rs q h => by
  unfold tyL at h
  split at h
  · rename_i ds e
    obtain ⟨a, vs, rfl, r, _⟩ := rd_lst rs e q
    exact .inl ⟨rfl, vs, r⟩
  · cases h
theorem tyS_of {X : Cx} : TyOf X "str" tyS := fun {G S H d v} rs q h => by
  unfold tyS at h
  split at h
  · rename_i l
    have q : v = _ := q
    subst q
    exact (rfl : ("str" : String) = "str")
  · cases h
theorem tyDi_of {X : Cx} : TyOf X "dict" tyDi := fun rs q h => by
  unfold tyDi at h
  split at h
  · rename_i ks zs e
    obtain ⟨a, kvs, rfl, r, _⟩ := rd_dct rs e q
    exact .inr (.inr (.inl ⟨rfl, .inl ⟨kvs, r⟩⟩))
  · cases h
def eMt0 (ty : Ty) (g : Mn) (m : E) : E := fun ρ S => (m ρ S).bind fun d S => if ty d S = true then g d [] S else .bad
def eMt (ty : Ty) (g : Mn) (m : E) (ma : As) : E := fun ρ S => (m ρ S).bind fun d S => if ty d S = true then (ma ρ S).bind fun ds S => g d ds S else .bad
section
variable {X : Cx} {pos : Pos} {T id : String} {ty : Ty} {g : Mn} {o e : Expr} {es : List Expr} {m : E} {ma : As} {name : Str} {apos cpos : Pos}
theorem ce_m0 (pa : PlainAttrs T) (slot : Slot T name id) (hty : typeOf (.builtin id) = pure (.type "method_descriptor")) (ht : TyOf X T ty) (hm : MB X id g) (ho : CE X o m)
    (hbase : attributeBase o name X.env (eval o X.env) = eval o X.env := by rfl) (hline : (apos.endLine == cpos.line) = true := by rfl) : CE X (.Call (.Attribute o name apos) [] [] cpos) (eMt0 ty g m) := fun W tk => ⟨fun pins s σ H Q I h => by
  refine (pe_bm0 pa slot hty (hm W σ) (ho W tk) hbase hline).run pins s σ H Q I ?_
  obtain ⟨G, ρ, S, rs, re, h⟩ := h
  obtain ⟨G0, ρ0, S0, a, b, c⟩ := tEv.bind rs re h
  refine ⟨G0, ρ0, S0, a, b, Go.mono c fun v H1 ⟨G1, d, S1, s, rs1, re1, dv, g1⟩ => ?_⟩
  split at g1
  · rename_i hh
    exact ⟨ht rs1 dv hh, G1, S1, d, [], rs1, dv, rfl, g1⟩
  · exact g1.elim⟩
theorem ce_m (pa : PlainAttrs T) (slot : Slot T name id) (hty : typeOf (.builtin id) = pure (.type "method_descriptor")) (ht : TyOf X T ty) (hm : MB X id g) (ho : CE X o m) (ha : CA X (e :: es) ma)
    (hbase : attributeBase o name X.env (eval o X.env) = eval o X.env := by rfl)
    (hfew : ((backTo cpos (starEach (e :: es) X.env)).all (fun x => !x.1) && (backToKw cpos (keywordEach [] X.env)).all (fun x => x.1.isSome)
      && decide ((e :: es).length + ([] : List Keyword).length + (if ([] : List Keyword).isEmpty then 0 else 1) < 30)) = true := by rfl)
    (hline : (apos.endLine == cpos.line) = true := by rfl) (hs : starEach (e :: es) X.env = (false, eval e X.env) :: starEach es X.env := by rfl) (hplain : (backTo cpos (starEach es X.env)).any (·.1) = false := by rfl) :
    CE X (.Call (.Attribute o name apos) (e :: es) [] cpos) (eMt ty g m ma) := fun W tk => ⟨fun pins s σ H Q I h => by
  refine (pe_bm pa slot hty (hm W σ) (ho W tk) (ha W tk) hbase hfew hline hs hplain).run pins s σ H Q I ?_
  obtain ⟨G, ρ, S, rs, re, h⟩ := h
  obtain ⟨G0, ρ0, S0, a, b, c⟩ := tEv.bind rs re h
  refine ⟨G0, ρ0, S0, a, b, Go.mono c fun v H1 ⟨G1, d, S1, s, rs1, re1, dv, g1⟩ => ?_⟩
  split at g1
  · rename_i hh
    obtain ⟨G0, ρ0, S0, a, b, c⟩ := tAv.bind rs1 re1 g1
    exact ⟨ht rs1 dv hh, G0, ρ0, S0, a, b, Go.mono c fun vs H2 ⟨G2, ds, S2, s2, rs2, re2, dvs, g2⟩ => ⟨G2, S2, d, ds, rs2, dv.mono s2, dvs, g2⟩⟩
  · exact g1.elim⟩

/-! ### lists changed -/
/-- the list in the store that d names -/
def refL : D → Sto → Option (Nat × List D)
  | .ref n, S => match S.get n with
    | some (.lst ds) => some (n, ds)
    | _ => none
  | _, _ => none
theorem refL_of {U : Wd} {G : Gh} {S : Sto} {H : Hp} {d : D} {v : V} {n : Nat} {ds : List D} (rs : RelS U G S H) (q : DV U G H d v) (h : refL d S = some (n, ds)) : n < G.n ∧ v = .ref (G.ι n) ∧ ∃ vs, H (G.ι n) = some (.lst vs) ∧ DVs U G H ds vs := by
  cases d with
  | ref m =>
    unfold refL at h
    dsimp only at h
    split at h
    · rename_i es e
      cases h
      obtain ⟨hn, rfl⟩ := q
      obtain ⟨vs, e1, q⟩ := rs.at_ _ _ e
      exact ⟨hn, rfl, vs, e1, q⟩
    · cases h
  | _ => cases h
theorem put_lst {U : Wd} {G : Gh} {S : Sto} {H : Hp} {n : Nat} {ds : List D} {vs : List V} (rs : RelS U G S H) (hn : n < G.n) (q : DVs U G H ds vs) : Step G H G (upd H (G.ι n) (.lst vs)) ∧ RelS U G (S.set n (.lst ds)) (upd H (G.ι n) (.lst vs)) :=
  ⟨step_put rs hn, rel_put rs hn ⟨vs, upd_same, q.mono (step_put rs hn)⟩⟩
theorem Go.put {U : Wd} {W : WX} {σ : L2.St} {G : Gh} {S : Sto} {H : Hp} {n : Nat} {ds : List D} {vs : List V} {d : D} {v : V} {Q : VK} (g : GoD U W σ G H (.ok d (S.set n (.lst ds))) Q) (rs : RelS U G S H) (hn : n < G.n) (q : DVs U G H ds vs) (qd : DV U G H d v) : Q v (upd H (G.ι n) (.lst vs)) :=
  let ⟨s, r⟩ := put_lst rs hn q
  g G v _ s r (qd.mono s)
theorem DVs.dropLast {U : Wd} {G : Gh} {H : Hp} : ∀ {ds : List D} {vs : List V}, DVs U G H ds vs → DVs U G H ds.dropLast vs.dropLast
  | [], _, h => by have h : _ = _ := h; subst h; rfl
  | [_], _, ⟨v, r, e, h1, h2⟩ => by have h2 : r = [] := h2; subst h2; subst e; rfl
  | _ :: _ :: _, _, ⟨v, r, e, h1, ⟨w, r2, e2, h3, h4⟩⟩ => by
    subst e2; subst e
    exact ⟨v, _, rfl, h1, DVs.dropLast (ds := _ :: _) ⟨w, r2, rfl, h3, h4⟩⟩
theorem DVs.setD {U : Wd} {G : Gh} {H : Hp} {d : D} {v : V} (q : DV U G H d v) : ∀ {ds : List D} {vs : List V} (j : Nat), DVs U G H ds vs → DVs U G H (ds.set j d) (vs.set j v)
  | [], _, _, h => by have h : _ = _ := h; subst h; rfl
  | _ :: _, _, 0, ⟨w, r, e, h1, h2⟩ => by subst e; exact ⟨v, r, rfl, q, h2⟩
  | _ :: _, _, j + 1, ⟨w, r, e, h1, h2⟩ => by subst e; exact ⟨w, _, rfl, h1, DVs.setD q j h2⟩
theorem DVs.take_ {U : Wd} {G : Gh} {H : Hp} : ∀ {ds : List D} {vs : List V} (j : Nat), DVs U G H ds vs → DVs U G H (ds.take j) (vs.take j)
  | [], _, j, h => by have h : _ = _ := h; subst h; rw [List.take_nil, List.take_nil]; rfl
  | _ :: _, _, 0, _ => by rw [List.take_zero, List.take_zero]; rfl
  | _ :: _, _, j + 1, ⟨w, r, e, h1, h2⟩ => by subst e; exact ⟨w, _, rfl, h1, DVs.take_ j h2⟩
theorem DVs.drop_ {U : Wd} {G : Gh} {H : Hp} : ∀ {ds : List D} {vs : List V} (j : Nat), DVs U G H ds vs → DVs U G H (ds.drop j) (vs.drop j)
  | [], _, j, h => by have h : _ = _ := h; subst h; rw [List.drop_nil, List.drop_nil]; rfl
  | _ :: _, _, 0, h => h
  | _ :: _, _, j + 1, ⟨w, r, e, h1, h2⟩ => by subst e; exact DVs.drop_ j h2
def oAppend : Mn := fun d es S => match refL d S, es with
  | some (n, ds), [e] => if fits (ds.length + 1) = true then .ok .non (S.set n (.lst (ds ++ [e]))) else .bad
  | _, _ => .bad
theorem mb_append : MB X "list.append" oAppend := fun W σ pins s σ' H x xs v us Q I rx rxs ⟨G, S, d, es, rs, qd, qe, g⟩ => by
  unfold oAppend at g
  split at g
  · rename_i n ds e hr
    split at g
    · rename_i hf
      obtain ⟨hn, rfl, vs, e1, q⟩ := refL_of rs qd hr
      obtain ⟨w, r, rfl, qw, qr⟩ := qe
      have qr : r = [] := qr
      subst qr
      refine mt_append pins s σ' H _ _ v us Q I rx rxs ⟨_, vs, w, rfl, rfl, e1, ?_, Go.put g rs hn (q.append ⟨w, [], rfl, qw, rfl⟩) rfl⟩
      have := fits_le hf
      rw [q.length]; omega
    · exact g.elim
  · exact g.elim
def oPop : Mn := fun d es S => match refL d S, es with
  | some (n, ds), [] => (match ds[ds.length - 1]? with
    | some e => .ok e (S.set n (.lst ds.dropLast))
    | none => .bad)
  | _, _ => .bad
theorem mb_pop : MB X "list.pop" oPop := fun W σ pins s σ' H x xs v us Q I rx rxs ⟨G, S, d, es, rs, qd, qe, g⟩ => by
  unfold oPop at g
  split at g
  · rename_i n ds hr
    split at g
    · rename_i e he
      obtain ⟨hn, rfl, vs, e1, q⟩ := refL_of rs qd hr
      have qe : xs = [] := qe
      subst qe
      obtain ⟨w, hw, dw⟩ := q.at he
      refine mt_pop pins s σ' H _ _ v us Q I rx rxs ⟨_, vs, w, rfl, rfl, e1, by rw [q.length]; exact hw, Go.put g rs hn q.dropLast dw⟩
    · exact g.elim
  · exact g.elim
/-- l.extend(..) of a list, or a tuple -/
theorem mt_extendA : MtM X "list.extend" (fun x vs H Q => ∃ l b xs zs, x = .ref l ∧ vs = [.ref b] ∧ H l = some (.lst xs) ∧ Rd H b (.lst zs) ∧ xs.length + zs.length ≤ sizeLine ∧ Q .non (upd H l (.lst (xs ++ zs)))) := by
  intro pins s σ H x vs v us Q I rx rv h
  obtain ⟨l, b, xs, zs, rfl, rfl, hH, hB, hz, q⟩ := h
  cases rx
  obtain ⟨u, rfl, ru⟩ := rv.one
  cases ru
  obtain ⟨z, its, n, r, hl, e⟩ := I.lstM hH
  obtain ⟨z2, its2, n2, r2, e2⟩ := hB.ok I.hok
  have hl2 := r2.length
  have hsz : its.toArray.size + its2.toArray.size ≤ sizeLine := by rw [List.size_toArray, List.size_toArray]; omega
  have hlong : ¬ (!its.toArray.isEmpty && Builtin.List.listTooLong (its.toArray.size + its2.toArray.size)) = true := by
    rw [notLongL hsz, Bool.and_false]
    exact Bool.false_ne_true
  refine call_meets PySem.F.slot_list_extend ⟨_, e, rfl⟩ PySem.F.entry_list_extend (PySem.F.args_list_extend_2 _ _)
    (AutoSeq1.list_extend_list_list_0 l its.toArray n b its2.toArray n2 hlong (by rw [List.size_toArray]; omega) (by omega)) ⟨e, e2, ?_⟩
  refine ⟨.non, _, I.lset (its' := its ++ its2) hH e (by simp) (r.append r2) ?_, rfl, q⟩
  rw [List.length_append]
  omega
def oExtend : Mn := fun d es S => match refL d S, es with
  | some (n, ds), [e] => (match rd S e with
    | .lst fs => if fits (ds.length + fs.length) = true then .ok .non (S.set n (.lst (ds ++ fs))) else .bad
    | _ => .bad)
  | _, _ => .bad
theorem mb_extend : MB X "list.extend" oExtend := fun W σ pins s σ' H x xs v us Q I rx rxs ⟨G, S, d, es, rs, qd, qe, g⟩ => by
  unfold oExtend at g
  split at g
  · rename_i n ds e hr
    split at g
    · rename_i fs hfs
      split at g
      · rename_i hf
        obtain ⟨hn, rfl, vs, e1, q⟩ := refL_of rs qd hr
        obtain ⟨w, r, rfl, qw, qr⟩ := qe
        have qr : r = [] := qr
        subst qr
        obtain ⟨b, ws, rfl, rb, qb⟩ := rd_lstR rs hfs qw
        refine mt_extendA pins s σ' H _ _ v us Q I rx rxs ⟨_, b, vs, ws, rfl, rfl, e1, rb, ?_, Go.put g rs hn (q.append qb) rfl⟩
        have := fits_le hf
        rw [q.length, qb.length]; exact this
      · exact g.elim
    · exact g.elim
  · exact g.elim
def oInsert : Mn := fun d es S => match refL d S, es with
  | some (n, ds), [.int i, e] => if fits (ds.length + 1) = true ∧ 0 ≤ i ∧ i < 16777216 then .ok .non (S.set n (.lst (ds.take i.toNat ++ [e] ++ ds.drop i.toNat))) else .bad
  | _, _ => .bad
theorem mb_insert : MB X "list.insert" oInsert := fun W σ pins s σ' H x xs v us Q I rx rxs ⟨G, S, d, es, rs, qd, qe, g⟩ => by
  unfold oInsert at g
  split at g
  · rename_i n ds i e hr
    split at g
    · rename_i hf
      obtain ⟨hn, rfl, vs, e1, q⟩ := refL_of rs qd hr
      obtain ⟨w, r, rfl, qw, w2, r2, rfl, qw2, qr⟩ := qe
      have qr : r2 = [] := qr
      subst qr
      have qw : w = _ := qw
      subst qw
      refine mt_insert pins s σ' H _ _ v us Q I rx rxs ⟨_, vs, i, w2, rfl, rfl, e1, ?_, hf.2.1, by have := hf.2.2; omega, Go.put g rs hn (((q.take_ i.toNat).append (show DVs (wd X) G H [e] [w2] from ⟨w2, [], rfl, qw2, rfl⟩)).append (q.drop_ i.toNat)) rfl⟩
      have := fits_le hf.1
      rw [q.length]; omega
    · exact g.elim
  · exact g.elim

/-! ### subscripts stored -/
abbrev Sn := D → D → D → Sto → Option Sto
def okP (U : Wd) (G : Gh) (H : Hp) (r : Option Sto) (Q : Hp → Prop) : Prop := match r with
  | some S' => ∀ G' H', Step G H G' H' → RelS U G' S' H' → Q H'
  | none => False
def rSet (U : Wd) (g : Sn) : TSet := fun o i v H Q => ∃ G S a j d, RelS U G S H ∧ DV U G H a o ∧ DV U G H j i ∧ DV U G H d v ∧ okP U G H (g a j d S) Q
def dhas (ks : List D) (k : D) : Bool := match ks with
  | [] => false
  | k' :: ks => eqv k' k || dhas ks k
def dmap : List D → List D → D → D → List D
  | k' :: ks, z :: zs, k, d => (if eqv k' k = true then d else z) :: dmap ks zs k d
  | _, _, _, _ => []
def dput (ks zs : List D) (k d : D) : List D × List D := if dhas ks k = true then (ks, dmap ks zs k d) else (ks ++ [k], zs ++ [d])
/-- an own field of a law's bag -/
def bagSet (b : Bag) (i : Int) (d : D) : Option Bag := match d with
  | .int x => if i = 0 then some { b with a := x } else if i = 1 then some { b with b := x } else if i = 2 then some { b with c := x } else none
  | _ => none
def oSet : Sn := fun a j d S => match a with
  | .ref n => (match S.get n with
    | some (.lst ds) => (match j with
      | .int k => (match ixN ds.length k with
        | some i => some (S.set n (.lst (ds.set i d)))
        | none => none)
      | _ => none)
    | some (.bag b) => (match j with
      | .int k => (match bagSet b k d with
        | some b' => some (S.set n (.bag b'))
        | none => none)
      | _ => none)
    | some (.dct ks zs) => (match keyOf j with
      | some _ => if fits (ks.length + 1) = true then some (S.set n (.dct (dput ks zs j d).1 (dput ks zs j d).2)) else none
      | none => none)
    | _ => none)
  | _ => none
theorem dhas_ok {k : D} {kk : Key} (hk : keyOf k = some kk) : ∀ {ks : List D} {kvs : List (Key × V)}, ks.map keyOf = kvs.map (fun p => some p.1) → dhas ks k = kvs.any fun kv => decide (kv.1 = kk)
  | [], kvs, h1 => by
    cases kvs with
    | nil => rfl
    | cons p r => simp at h1
  | k' :: ks, kvs, h1 => by
    cases kvs with
    | nil => simp at h1
    | cons p r =>
      have h1' : keyOf k' = some p.1 ∧ ks.map keyOf = r.map (fun p => some p.1) := by simpa using h1
      unfold dhas
      rw [keyOf_eqv h1'.1 hk, dhas_ok hk h1'.2, List.any_cons]
theorem dmap_ok {U : Wd} {G : Gh} {H : Hp} {k : D} {kk : Key} {d : D} {v : V} (hk : keyOf k = some kk) (q : DV U G H d v) : ∀ {ks zs : List D} {kvs : List (Key × V)}, ks.map keyOf = kvs.map (fun p => some p.1) → DVs U G H zs (kvs.map (·.2)) →
    DVs U G H (dmap ks zs k d) ((kvs.map fun kv => if kv.1 = kk then (kv.1, v) else kv).map (·.2))
  | [], zs, kvs, h1, h2 => by
    cases kvs with
    | nil => show DVs U G H (dmap [] zs k d) []; unfold dmap; cases zs <;> rfl
    | cons p r => simp at h1
  | k' :: ks, zs, kvs, h1, h2 => by
    cases kvs with
    | nil => simp at h1
    | cons p r =>
      have h1' : keyOf k' = some p.1 ∧ ks.map keyOf = r.map (fun p => some p.1) := by simpa using h1
      cases zs with
      | nil => have : p.2 :: r.map (·.2) = [] := h2; cases this
      | cons z zs =>
        obtain ⟨w, rr, e, q1, q2⟩ := h2
        have e : p.2 :: r.map (·.2) = w :: rr := e
        injection e with e1 e2
        subst e1 e2
        refine ⟨_, _, rfl, ?_, dmap_ok hk q h1'.2 q2⟩
        rw [keyOf_eqv h1'.1 hk]
        show DV U G H _ (if p.1 = kk then (p.1, v) else p).2
        by_cases c : p.1 = kk
        · rw [if_pos c, if_pos (decide_eq_true c)]; exact q
        · rw [if_neg c, if_neg (by rw [decide_eq_false c]; exact Bool.false_ne_true)]; exact q1
theorem dput_ok {U : Wd} {G : Gh} {H : Hp} {k : D} {kk : Key} {d : D} {v : V} (hk : keyOf k = some kk) (q : DV U G H d v) {ks zs : List D} {kvs : List (Key × V)} (h1 : ks.map keyOf = kvs.map (fun p => some p.1)) (h2 : DVs U G H zs (kvs.map (·.2))) :
    (dput ks zs k d).1.map keyOf = (putK kvs kk v).map (fun p => some p.1) ∧ DVs U G H (dput ks zs k d).2 ((putK kvs kk v).map (·.2)) := by
  unfold dput putK
  rw [dhas_ok hk h1]
  by_cases c : (kvs.any fun kv => decide (kv.1 = kk)) = true
  · rw [if_pos c, if_pos c]
    refine ⟨?_, dmap_ok hk q h1 h2⟩
    rw [List.map_map]
    refine h1.trans (List.map_congr_left fun p _ => ?_)
    show some p.1 = some (if p.1 = kk then (p.1, v) else p).1
    by_cases e : p.1 = kk
    · rw [if_pos e]
    · rw [if_neg e]
  · rw [if_neg c, if_neg c]
    refine ⟨?_, ?_⟩
    · rw [List.map_append, List.map_append, h1]
      show _ ++ [keyOf k] = _ ++ [some kk]
      rw [hk]
    · rw [List.map_append]
      exact h2.append ⟨v, [], rfl, q, rfl⟩
theorem bagSet_vs {U : Wd} {G : Gh} {H : Hp} {b b' : Bag} {i : Int} {d : D} {v : V} {c : Addr} {n : Nat} (h : bagSet b i d = some b') (hn : 4 = n) (q : DV U G H d v) : ∃ j, ixN n i = some j ∧ [V.int b.a, .int b.b, .int b.c, .ref c].set j v = [V.int b'.a, .int b'.b, .int b'.c, .ref c] ∧ b'.l = b.l := by
  subst hn
  unfold bagSet at h
  cases d with
  | int x =>
    have q : v = .int x := q
    subst q
    dsimp only at h
    by_cases h0 : i = 0
    · rw [if_pos h0] at h; cases h; subst h0; exact ⟨0, rfl, rfl, rfl⟩
    · rw [if_neg h0] at h
      by_cases h1 : i = 1
      · rw [if_pos h1] at h; cases h; subst h1; exact ⟨1, rfl, rfl, rfl⟩
      · rw [if_neg h1] at h
        by_cases h2 : i = 2
        · rw [if_pos h2] at h; cases h; subst h2; exact ⟨2, rfl, rfl, rfl⟩
        · rw [if_neg h2] at h; cases h
  | _ => cases h
theorem set_any {k0 : Nat} (hr : Room k0 X.A) : PSet X (rSet (wd X) oSet) := fun pins s σ H o i v ov iv u Q I ro ri rv ⟨G, S, a, j, d, rs, qa, qj, qd, g⟩ => by
  unfold oSet at g
  cases a with
  | ref n =>
    obtain ⟨hn, rfl⟩ := qa
    dsimp only at g
    cases e : S.get n with
    | none => rw [e] at g; exact g.elim
    | some ob =>
      rw [e] at g
      cases ob with
      | lst ds =>
        cases j with
        | int k =>
          have qj : i = .int k := qj
          subst qj
          dsimp only at g
          cases ei : ixN ds.length k with
          | none => rw [ei] at g; exact g.elim
          | some t =>
            rw [ei] at g
            obtain ⟨vs, e1, q⟩ := rs.at_ n _ e
            obtain ⟨st, r⟩ := put_lst rs hn (DVs.setD qd t q)
            exact set_list pins s σ H _ _ v ov iv u Q I ro ri rv ⟨_, vs, k, t, rfl, rfl, e1, by rw [q.length]; exact ei, g G _ st r⟩
        | _ => exact g.elim
      | bag b =>
        cases j with
        | int k =>
          have qj : i = .int k := qj
          subst qj
          dsimp only at g
          cases ei : bagSet b k d with
          | none => rw [ei] at g; exact g.elim
          | some b' =>
            rw [ei] at g
            obtain ⟨c, e1, q⟩ := rs.at_ n _ e
            obtain ⟨t, h1, h2, h3⟩ := bagSet_vs (c := c) ei rfl qd
            refine set_list pins s σ H _ _ v ov iv u Q I ro ri rv ⟨_, _, k, t, rfl, rfl, e1, h1, ?_⟩
            rw [h2]
            exact g G _ (step_put rs hn) (rel_put rs hn ⟨c, upd_same, by rw [h3]; exact q.mono (step_put rs hn)⟩)
        | _ => exact g.elim
      | dct ks zs =>
        dsimp only at g
        cases ek : keyOf j with
        | none => rw [ek] at g; exact g.elim
        | some kk =>
          rw [ek] at g
          dsimp only at g
          by_cases hf : fits (ks.length + 1) = true
          · rw [if_pos hf] at g
            obtain ⟨kvs, e1, q1, q⟩ := rs.at_ n _ e
            obtain ⟨p1, p2⟩ := dput_ok ek qd q1 q
            have hl : kvs.length = ks.length := by have := congrArg List.length q1; simpa using this.symm
            have := fits_le hf
            have ei := keyOf_V ek qj
            subst ei
            refine set_dict (Room.u1 hr) pins s σ H _ _ v ov iv u Q I ro ri rv ⟨_, _, rfl, DPut.k e1 (by omega), ?_⟩
            exact g G _ (step_put rs hn) (rel_put rs hn ⟨_, upd_same, p1, p2.mono (step_put rs hn)⟩)
          · rw [if_neg hf] at g; exact g.elim
      | dcn ks zs => exact g.elim
      | ins c fs => exact g.elim
  | _ => exact g.elim
/-- o[i] = e -/
def sPut (me mo mi : E) : C := fun ρ S => (me ρ S).toS ρ fun d S => (mo ρ S).toS ρ fun a S => (mi ρ S).toS ρ fun j S => match oSet a j d S with
  | some S' => .nx ρ S'
  | none => .bad
theorem cs_put {k0 : Nat} {o i e : Expr} {mo mi me : E} {tpos : Pos} (hr : Room k0 X.A) (he : CE X e me) (ho : CE X o mo) (hi : CE X i mi) (ha : ∀ v, assign (.Subscript o i tpos) X.env v = (do
      let ov ← holding [v] (eval o X.env)
      let iv ← holding [v, ov] (eval i X.env)
      standAt tpos
      holding [v, ov, iv] (setItem ov iv v)
      release [v, ov, iv] []) := by intro _; rfl) (hs : swapsWithSole [.Subscript o i tpos] e pos.line X.env = pure false := by rfl) (hw : swappedStores [.Subscript o i tpos] e X.env = pure none := by rfl) (h1 : (assignEach [.Subscript o i tpos] X.env).map (·.2) = [assign (.Subscript o i tpos) X.env] := by rfl) :
    CS X (.Assign [.Subscript o i tpos] e pos) (sPut me mo mi) := fun W tk => PS.imp (ps_asg (he W tk) (pg_sub (ho W tk) (hi W tk) (set_any hr) ha) hs hw h1) fun D σ H ⟨G, ρ, S, rs, re, h⟩ => by
  obtain ⟨G0, ρ0, S0, a, b, c⟩ := tEv.toS rs re h
  refine ⟨G0, ρ0, S0, a, b, Go.mono c fun v H1 ⟨G1, d, S1, s, rs1, re1, dv, g1⟩ => ?_⟩
  obtain ⟨G0, ρ0, S0, a, b, c⟩ := tEv.toS rs1 re1 g1
  refine ⟨G0, ρ0, S0, a, b, Go.mono c fun o H2 ⟨G2, d2, S2, s2, rs2, re2, dv2, g2⟩ => ?_⟩
  obtain ⟨G0, ρ0, S0, a, b, c⟩ := tEv.toS rs2 re2 g2
  refine ⟨G0, ρ0, S0, a, b, Go.mono c fun i H3 ⟨G3, d3, S3, s3, rs3, re3, dv3, g3⟩ => ⟨G3, S3, d2, d3, d, rs3, dv2.mono s3, dv3, dv.mono (s2.trans s3), ?_⟩⟩
  cases e1 : oSet d2 d3 d S3 with
  | none => rw [e1] at g3; exact g3.elim
  | some S' => rw [e1] at g3; exact fun G' H' s' r' => GoS.nx_ (GoS.step s' g3) r' (re3.mono s')
end
end Z

/-! Z10: what is walked: lists, tuples, texts, ranges, enumerate, zip. -/
namespace Z
open PySem PySem.Spec PyProof PyProof.Rows L2

/-! ### enumerate of anything that begins -/
theorem meets_enum1 {v : Value} {o : Obj} {H : Heap → Prop} (B : Begins v o H) :
    Meets (Builtin.«enumerate.__new__» ⟨[.type "enumerate", v], []⟩) (fun _ R s => H s.heap ∧
      R (.ok (.ret (.ref (s.heap.push o).objs.size))) { s with heap := (s.heap.push o).push { cls := .type "enumerate", data := .fields #[.none, .bool false, .ref s.heap.objs.size, rawInt 0, .none, .none] } }) :=
  .of_wp fun prog w A R s h => by
    obtain ⟨hp, g, d, tk, os⟩ := s; obtain ⟨h1, h⟩ := h
    have hsub := sub_enumerate
    have q1 : ∀ {A' : Around} {E : Value → Shared → Prop} {Q : Value → Shared → Prop}, Q (.ref hp.objs.size) ⟨hp.push o, g, d, tk, os⟩ → wpAny (model prog w) A' (pyIter v) Q E ⟨hp, g, d, tk, os⟩ :=
      fun q => B.iter prog w _ _ ⟨hp, g, d, tk, os⟩ _ h1 q
    wp_walk using q1
    refine wpAny_stack_any fun st => wpAny_pure ?_
    split
    · rename_i c _ _ _ _ _
      cases (c == Value.type "enumerate")
      · wp_walk using q1
        exact ⟨_, rfl, h⟩
      · wp_walk using q1
        exact ⟨_, rfl, h⟩
    · wp_walk using q1
      exact ⟨_, rfl, h⟩
theorem enum_begins1 {prog : Program} {w : World} {A : Around} {E : Value → Shared → Prop} {s : Shared} {v : Value} {o : Obj} {H : Heap → Prop} {Q : Value → Shared → Prop} (B : Begins v o H) (h1 : H s.heap)
    (h : ∀ h', IsEnum h' (s.heap.objs.size + 1) s.heap.objs.size 0 .none → h'.get? s.heap.objs.size = some o → h'.objs.size = s.heap.objs.size + 2 →
      (∀ b o, s.heap.get? b = some o → h'.get? b = some o) → Q (.ref (s.heap.objs.size + 1)) { s with heap := h' }) :
    wpAny (model prog w) A (call (.type "enumerate") [v]) Q E s := by
  refine callType_new F.called_enumerate (by decide) (F.typeCall_enumerate_1 _) (F.newCall_enumerate_1 _) (fun obj => F.args_object_init_2 obj _) F.entry_enumerate_new
    (meets_enum1 B) ⟨h1, ?_⟩
  have hz : (s.heap.push o).objs.size = s.heap.objs.size + 1 := Heap.size_push ..
  show _ ∧ _
  rw [hz]
  have he : IsEnum ((s.heap.push o).push { cls := .type "enumerate", data := .fields #[.none, .bool false, .ref s.heap.objs.size, rawInt 0, .none, .none] }) (s.heap.objs.size + 1) s.heap.objs.size 0 .none := by
    have := Heap.get?_push_size (s.heap.push o) (o := { cls := .type "enumerate", data := .fields #[.none, .bool false, .ref s.heap.objs.size, rawInt 0, .none, .none] }) rfl
    rw [hz] at this; exact this
  refine ⟨⟨_, he, rfl⟩, h _ he (Heap.get?_push_of_some _ (Heap.get?_push_size _ B.free)) (by rw [Heap.size_push, hz]) fun b o x => Heap.get?_push_of_some _ (Heap.get?_push_of_some _ x)⟩
theorem enum_endT {prog : Program} {w : World} {A : Around} {E : Value → Shared → Prop} {s : Shared} {e it l : Addr} {i : Nat} {k : Int} {items : Array Value} {old : Value} {Q : Option Value → Shared → Prop} (hh : A.handled = none)
    (he : IsEnum s.heap e it k old) (hit : s.heap.IsTupleIter it l i) (hl : s.heap.IsTuple l items) (hx : items[i]? = none)
    (hQ : ∀ h', Heap.ExtBut it s.heap h' → Q none { s with heap := h' }) : wpAny (model prog w) A (pyNext (.ref e)) Q E s := by
  have hT : s.TypeIs (.ref e) "enumerate" := ⟨_, he, rfl⟩
  unfold pyNext
  refine wpAny_bind (wpAny_attempt (wpAny_callSpecial?_slot (name := Str.ofString "__next__") hT F.slot_enumerate_next
    (wpAny_call_entry F.slot_enumerate_next hT F.entry_enumerate_next ?_ (F.args_enumerate_next_1 _))))
  show wpAny _ _ (field (.ref e) 2 >>= _) _ _ _
  refine wpAny_bind (wpAny_field he rfl (x := .ref it) rfl ?_)
  refine wpAny_bind (wpAny_nextOf_tuple_end (show A.in1.handled = none from hh) hit hl hx fun h' x he' hx' => ?_)
  obtain ⟨o, ho, hc⟩ := hx'
  refine wpAny_bind (wpAny_isInstance (T := "StopIteration") (b := true) ⟨o, ho, hc⟩ isSubtype_stop ?_)
  exact wpAny_pure (hQ _ he')
/-- a tuple, numbered -/
def IteT (K : PySem.W.Frag) (a : Addr) : It :=
  ⟨fun i H => ∃ (xs : List V) (x : V), SqT K H a xs ∧ xs[i]? = some x, fun i H v H' => ∃ T x, v = .ref T ∧ H T = none ∧ H' = upd H T (.tup [.int (i : Nat), x]) ∧ ∀ xs, SqT K H a xs → xs[i]? = some x, fun i H => ∃ xs : List V, SqT K H a xs ∧ xs.length ≤ i⟩
theorem turn_enumT {P : Program} {w : World} {K : PySem.W.Frag} {elts : List Expr} {kk : Nat} {tpos : Pos} (a e it : Addr) (hai : a ≠ it) (hae : a ≠ e) :
    Turn P w K (.Tuple elts kk tpos) (IteT K a) [e, it] e (fun i h => (∃ old, IsEnum h e it ((i : Nat) : Int) old) ∧ h.IsTupleIter it a i ∧ e ≠ it) where
  mem := by simp
  obj := fun i h st b hb => by
    obtain ⟨⟨old, he⟩, ⟨o, ho, hc, hd⟩, _⟩ := st
    have e' : b = e ∨ b = it := by simpa using hb
    rcases e' with z | z
    · rw [z]; exact ⟨_, he, fun v q => nomatch q⟩
    · rw [z]; exact ⟨o, ho, fun v q => by rw [hd] at q; cases q⟩
  keep := fun i h h' st k => let ⟨⟨old, he⟩, hi, hne⟩ := st; ⟨⟨old, k e (by simp) _ he⟩, hi.at fun o q => k it (by simp) o q, hne⟩
  item := by
    intro X hP hw hK hc i pins s σ H E I hf st hg
    subst hP hw hK
    obtain ⟨⟨old, he⟩, hit, hne⟩ := st
    obtain ⟨xs, x, hq, hx⟩ := hg
    obtain ⟨its, rv, p, hz⟩ := I.tuple hq
    obtain ⟨u, hu, ru⟩ := rv.get hx
    have hel : e < s.heap.objs.size := Heap.lt_size he
    have hil : it < s.heap.objs.size := by obtain ⟨_, q, _⟩ := hit; exact Heap.lt_size q
    have hlt : i < its.toArray.size := by rw [List.size_toArray]; exact (List.getElem?_eq_some_iff.mp hu).1
    have D : Draws X.prog X.w X.A.in1 it [it, a] its.toArray.size _ _ := Draws.tuple (show X.A.in1.handled = none from I.ok.hd hc) it a hai its.toArray
    refine wpAny_pyNext_enum_itemC (c := (i : Int)) D he ⟨hit, p⟩ hlt hne (by simp [hne, Ne.symm hae]) fun u' h' tk hP ho hst hT hsz hk => ?_
    have eu : u' = u := by
      have hP : its.toArray[i]? = some u' := hP
      rw [List.getElem?_toArray, hu] at hP
      exact (Option.some.inj hP).symm
    subst eu
    refine ⟨_, rfl, wpAny_letOwnedTupleGo_enum (s := { s with heap := h', toks := tk + 1 }) ho fun h'' he' sb => ?_⟩
    have hT2 : h''.get? s.heap.objs.size = some { cls := .type "tuple", data := .seq #[.int i tk, u'] } := (sb.2 _ (Nat.ne_of_gt hel)).trans hT
    have new : ObjOk X.prog X.w (upd H s.heap.objs.size (.tup [.int (i : Nat), x])) h'' s.heap.objs.size (.tup [.int (i : Nat), x]) :=
      ⟨by show 2 ≤ sizeLine; decide, [.int i tk, u'], .cons ⟨_, rfl⟩ (.cons ru .nil), ⟨_, hT2, rfl, _, rfl⟩⟩
    have I1 : Inv X pins σ (upd H s.heap.objs.size (.tup [.int (i : Nat), x])) { s with heap := h'', toks := tk + 1 } :=
      I.turnedNew (ch := [e, it]) (fun b ob hb q => (sb.2 b (fun z => hb (by simp [z]))).trans (hk b ob (fun z => hb (by simp [z])) (fun z => hb (by simp [z])) q)) hf (Nat.le_refl _) new
    refine ⟨.ref s.heap.objs.size, _, I1, rfl, ⟨_, x, rfl, I.hok.fresh (Nat.le_refl _), rfl, fun ys hy => by rw [I.tuple_inj hy hq]; exact hx⟩, ⟨⟨u', ?_⟩, hst.1.at fun o q => (sb.2 it (Ne.symm hne)).trans q, hne⟩, fun b hb => ?_⟩
    · have e1 : ((i + 1 : Nat) : Int) = (i : Int) + 1 := by omega
      rw [e1]; exact he'
    · have hb' : b < s.heap.objs.size := by
        have e' : b = e ∨ b = it := by simpa using hb
        rcases e' with z | z
        · rw [z]; exact hel
        · rw [z]; exact hil
      rw [upd_ne (Nat.ne_of_lt hb')]
      exact (hf b hb).1
  done := by
    intro X hP hw hK hc i pins s σ H E I hf st hg
    subst hP hw hK
    obtain ⟨⟨old, he⟩, hit, hne⟩ := st
    obtain ⟨xs, hq, hx⟩ := hg
    obtain ⟨its, rv, p, hz⟩ := I.tuple hq
    obtain ⟨f0, f1, f2, f3, f4, f5⟩ := hf it (by simp)
    have hl := rv.length
    exact enum_endT (I.ok.hd hc) he hit p (by simp; omega) fun h' eb => ⟨rfl, I.turned (t' := s.toks) (fun b o hb q => eb b o hb q) f0 f1 f3 f4 f5⟩
  self := fun A i s Q E st h => let ⟨⟨_, he⟩, _⟩ := st; wpAny_pyIter_enum he h

/-! ### what is walked, by values -/
inductive Src where
  | st (ds : List D) | lv (f : Sto → Option (List D))
def numb : Int → List D → List D
  | _, [] => []
  | i, d :: ds => .tup [.int i, d] :: numb (i + 1) ds
def pairs : List D → List D → List D
  | a :: as, b :: bs => .tup [a, b] :: pairs as bs
  | _, _ => []
def irow : Int → Nat → List D
  | _, 0 => []
  | i, n + 1 => .int i :: irow (i + 1) n
def refv (n : Nat) (S : Sto) : Option (List D) := match S.get n with
  | some (.lst ds) => some ds
  | _ => none
/-- what stands there now -/
def look : Src → Sto → Option (List D)
  | .st ds, _ => some ds
  | .lv f, S => f S
/-- the iterator J gives what src holds, as it stands at each turn -/
def relI (U : Wd) (G : Gh) (H : Hp) (src : Src) (J : It) : Prop := ∀ G' H' S ds, Step G H G' H' → RelS U G' S H' → look src S = some ds → ∀ i,
  (∀ d, ds[i]? = some d → J.go i H' ∧ ∀ x H'', J.yld i H' x H'' → ∃ G'', Step G' H' G'' H'' ∧ RelS U G'' S H'' ∧ DV U G'' H'' d x) ∧ (ds[i]? = none → J.stop i H')
abbrev EI := Env → Sto → R Src
def tIv (U : Wd) (m : EI) (W : WX) : TI := fun σ H R => ∃ G ρ S, RelS U G S H ∧ RelE U G ρ σ H ∧ Go (relI U) U W σ G H (m ρ S) (fun J H' => R J H')
def CI (X : Cx) (tg iter : Expr) (m : EI) : Prop := ∀ W, Takes X W → PI X tg iter (tIv (wd X) m W)
theorem PI.imp {X : Cx} {tg it : Expr} {t t' : TI} (h : PI X tg it t) (i : ∀ σ H R, t' σ H R → t σ H R) : PI X tg it t' := ⟨fun p s σ H R I q => h.run p s σ H R I (i σ H R q)⟩
theorem DVs.get {U : Wd} {G : Gh} {H : Hp} {ds : List D} {vs : List V} (q : DVs U G H ds vs) (i : Nat) : (∀ d, ds[i]? = some d → ∃ v, vs[i]? = some v ∧ DV U G H d v) ∧ (ds[i]? = none → vs.length ≤ i) :=
  ⟨fun d h => q.at h, fun h => by rw [q.length]; exact List.getElem?_eq_none_iff.mp h⟩
/-- the values behind a source -/
def Seqs (U : Wd) (G : Gh) (H : Hp) (src : Src) (P : Hp → List V → Prop) : Prop := ∀ G' H' S ds, Step G H G' H' → RelS U G' S H' → look src S = some ds → ∃ vs, P H' vs ∧ DVs U G' H' ds vs
theorem relI_list {U : Wd} {G : Gh} {H : Hp} {src : Src} {a : Addr} (hs : Seqs U G H src fun H' vs => SqL U.K H' a vs) : relI U G H src (Itl U.K a) := by
  intro G' H' S ds s rs hl i
  obtain ⟨vs, hP, q⟩ := hs G' H' S ds s rs hl
  refine ⟨fun d hd => ?_, fun hn => ⟨vs, hP, (q.get i).2 hn⟩⟩
  obtain ⟨v, hv, dv⟩ := (q.get i).1 d hd
  refine ⟨⟨vs, v, hP, hv⟩, fun x H'' ⟨e, h⟩ => ?_⟩
  have h := h vs hP
  rw [hv] at h; cases h
  subst e
  exact ⟨G', Step.refl, rs, dv⟩
theorem relI_tup {U : Wd} {G : Gh} {H : Hp} {src : Src} {a : Addr} (hs : Seqs U G H src fun H' vs => SqT U.K H' a vs) : relI U G H src (Itt U.K a) := by
  intro G' H' S ds s rs hl i
  obtain ⟨vs, hP, q⟩ := hs G' H' S ds s rs hl
  refine ⟨fun d hd => ?_, fun hn => ⟨vs, hP, (q.get i).2 hn⟩⟩
  obtain ⟨v, hv, dv⟩ := (q.get i).1 d hd
  refine ⟨⟨vs, v, hP, hv⟩, fun x H'' ⟨e, h⟩ => ?_⟩
  have h := h vs hP
  rw [hv] at h; cases h
  subst e
  exact ⟨G', Step.refl, rs, dv⟩
/-- what a value holds, as a source -/
def srcOf (d : D) (S : Sto) : Option Src := match d with
  | .lst ds => some (.st ds)
  | .tup ds => some (.st ds)
  | .ref n => (match S.get n with
    | some (.lst _) => some (.lv (refv n))
    | _ => none)
  | _ => none
theorem srcOf_ok {U : Wd} {G : Gh} {S : Sto} {H : Hp} {d : D} {v : V} {src : Src} (rs : RelS U G S H) (q : DV U G H d v) (h : srcOf d S = some src) : ∃ a, v = .ref a ∧ (((∃ xs, SqL U.K H a xs) ∧ Seqs U G H src fun H' vs => SqL U.K H' a vs) ∨ ((∃ xs, SqT U.K H a xs) ∧ Seqs U G H src fun H' vs => SqT U.K H' a vs)) := by
  cases d with
  | lst ds =>
    cases h
    obtain ⟨a, vs, rfl, t, q⟩ := q
    refine ⟨a, rfl, .inl ⟨⟨vs, t.sq⟩, fun G' H' S ds' s rs hl => ?_⟩⟩
    cases hl
    exact ⟨vs, (t.mono s).sq, q.mono s⟩
  | tup ds =>
    cases h
    obtain ⟨a, vs, rfl, t, q⟩ := q
    refine ⟨a, rfl, .inr ⟨⟨vs, t.sq⟩, fun G' H' S ds' s rs hl => ?_⟩⟩
    cases hl
    exact ⟨vs, (t.mono s).sq, q.mono s⟩
  | ref n =>
    unfold srcOf at h
    dsimp only at h
    cases e : S.get n with
    | none => rw [e] at h; cases h
    | some o =>
      rw [e] at h
      cases o with
      | lst ds =>
        cases h
        obtain ⟨hn, rfl⟩ := q
        obtain ⟨vs, e1, q⟩ := rs.at_ n _ e
        refine ⟨_, rfl, .inl ⟨⟨vs, .inl (.inl e1)⟩, fun G' H' S' ds' s rs' hl => ?_⟩⟩
        have hl : refv n S' = some ds' := hl
        unfold refv at hl
        split at hl
        · rename_i ds2 e2
          cases hl
          obtain ⟨ws, e3, q3⟩ := rs'.at_ n _ e2
          rw [s.ι n hn] at e3
          exact ⟨ws, .inl (.inl e3), q3⟩
        · cases hl
      | _ => cases h
  | _ => cases h
def signs : List Nat → List D
  | [] => []
  | c :: l => .str [c] :: signs l
theorem signs_get : ∀ (l : List Nat) (i : Nat) (d : D), (signs l)[i]? = some d → ∃ c, l[i]? = some c ∧ d = .str [c]
  | [], i, d, h => by simp [signs] at h
  | c :: l, 0, d, h => by simp [signs] at h; exact ⟨c, rfl, h.symm⟩
  | c :: l, i + 1, d, h => by simp [signs] at h; simpa using signs_get l i d h
theorem signs_len : ∀ l : List Nat, (signs l).length = l.length
  | [] => rfl
  | _ :: l => by simp [signs, signs_len l]
theorem irow_get : ∀ (n : Nat) (lo : Int) (i : Nat) (d : D), (irow lo n)[i]? = some d → i < n ∧ d = .int (lo + i)
  | 0, _, i, d, h => by simp [irow] at h
  | n + 1, lo, 0, d, h => by simp [irow] at h; exact ⟨Nat.succ_pos _, by rw [← h]; simp⟩
  | n + 1, lo, i + 1, d, h => by
    simp [irow] at h
    obtain ⟨h1, h2⟩ := irow_get n (lo + 1) i d h
    refine ⟨Nat.succ_lt_succ h1, ?_⟩
    rw [h2]; congr 1; omega
theorem irow_len : ∀ (n : Nat) (lo : Int), (irow lo n).length = n
  | 0, _ => rfl
  | n + 1, lo => by simp [irow, irow_len n]
theorem relI_str {U : Wd} {G : Gh} {H : Hp} {l : List Nat} : relI U G H (.st (signs l)) (Its ⟨l.toArray⟩) := by
  intro G' H' S ds s rs hl i
  cases hl
  refine ⟨fun d hd => ?_, fun hn => ?_⟩
  · obtain ⟨c, hc, rfl⟩ := signs_get l i d hd
    have hi : i < l.length := (List.getElem?_eq_some_iff.mp hc).1
    refine ⟨by show i < l.toArray.size; rw [List.size_toArray]; exact hi, fun x H'' ⟨e, c', hc', ex⟩ => ?_⟩
    subst e ex
    have hc' : l.toArray[i]? = some c' := hc'
    rw [List.getElem?_toArray, hc] at hc'
    cases hc'
    exact ⟨G', Step.refl, rs, rfl⟩
  · have := List.getElem?_eq_none_iff.mp hn
    rw [signs_len] at this
    show l.toArray.size ≤ i
    rw [List.size_toArray]; exact this
theorem relI_rng {U : Wd} {G : Gh} {H : Hp} {lo : Int} {n : Nat} : relI U G H (.st (irow lo n)) (Itr lo n) := by
  intro G' H' S ds s rs hl i
  cases hl
  refine ⟨fun d hd => ?_, fun hn => ?_⟩
  · obtain ⟨h1, rfl⟩ := irow_get n lo i d hd
    exact ⟨h1, fun x H'' ⟨e, ex⟩ => by subst e ex; exact ⟨G', Step.refl, rs, rfl⟩⟩
  · have := List.getElem?_eq_none_iff.mp hn
    rw [irow_len] at this
    exact this
def lkE (f : List D → List D) : Src → Src
  | .st ds => .st (f ds)
  | .lv g => .lv fun S => (g S).map f
theorem lkE_look {f : List D → List D} {src : Src} {S : Sto} {ds : List D} (h : look (lkE f src) S = some ds) : ∃ es, look src S = some es ∧ ds = f es := by
  cases src with
  | st es => cases h; exact ⟨es, rfl, rfl⟩
  | lv g =>
    have h : (g S).map f = some ds := h
    cases e : g S with
    | none => rw [e] at h; cases h
    | some es => rw [e] at h; cases h; exact ⟨es, e, rfl⟩
theorem numb_get : ∀ (ds : List D) (k : Int) (i : Nat) (d : D), (numb k ds)[i]? = some d → ∃ e, ds[i]? = some e ∧ d = .tup [.int (k + i), e]
  | [], k, i, d, h => by simp [numb] at h
  | e :: ds, k, 0, d, h => by simp [numb] at h; exact ⟨e, rfl, by rw [← h]; simp⟩
  | e :: ds, k, i + 1, d, h => by
    simp [numb] at h
    obtain ⟨e', h1, h2⟩ := numb_get ds (k + 1) i d h
    refine ⟨e', by simpa using h1, ?_⟩
    rw [h2]
    have : k + 1 + (i : Int) = k + ((i + 1 : Nat) : Int) := by omega
    rw [this]
theorem numb_len : ∀ (ds : List D) (k : Int), (numb k ds).length = ds.length
  | [], _ => rfl
  | _ :: ds, k => by simp [numb, numb_len ds]
theorem new_pair {U : Wd} {G : Gh} {S : Sto} {H : Hp} {T : Addr} {d e : D} {v w : V} (rs : RelS U G S H) (hT : H T = none) (qd : DV U G H d v) (qe : DV U G H e w) : Step G H G (upd H T (.tup [v, w])) ∧ RelS U G S (upd H T (.tup [v, w])) ∧ DV U G (upd H T (.tup [v, w])) (.tup [d, e]) (.ref T) :=
  ⟨step_new rs hT, rel_new rs hT, new_tup rs hT ⟨v, _, rfl, qd, w, [], rfl, qe, rfl⟩⟩
theorem relI_enL {U : Wd} {G : Gh} {H : Hp} {src : Src} {a : Addr} (hs : Seqs U G H src fun H' vs => SqL U.K H' a vs) : relI U G H (lkE (numb 0) src) (Ite U.K a) := by
  intro G' H' S ds s rs hl i
  obtain ⟨es, hl2, rfl⟩ := lkE_look hl
  obtain ⟨vs, hP, q⟩ := hs G' H' S es s rs hl2
  refine ⟨fun d hd => ?_, fun hn => ⟨vs, hP, ?_⟩⟩
  · obtain ⟨e, he, rfl⟩ := numb_get es 0 i d hd
    obtain ⟨v, hv, dv⟩ := (q.get i).1 e he
    refine ⟨⟨vs, v, hP, hv⟩, fun x H'' ⟨T, y, ex, hT, eH, h⟩ => ?_⟩
    have h := h vs hP
    rw [hv] at h; cases h
    subst ex eH
    rw [Int.zero_add]
    exact ⟨G', new_pair rs hT rfl dv⟩
  · have := List.getElem?_eq_none_iff.mp hn
    rw [numb_len] at this
    rw [q.length]; exact this
theorem relI_enT {U : Wd} {G : Gh} {H : Hp} {src : Src} {a : Addr} (hs : Seqs U G H src fun H' vs => SqT U.K H' a vs) : relI U G H (lkE (numb 0) src) (IteT U.K a) := by
  intro G' H' S ds s rs hl i
  obtain ⟨es, hl2, rfl⟩ := lkE_look hl
  obtain ⟨vs, hP, q⟩ := hs G' H' S es s rs hl2
  refine ⟨fun d hd => ?_, fun hn => ⟨vs, hP, ?_⟩⟩
  · obtain ⟨e, he, rfl⟩ := numb_get es 0 i d hd
    obtain ⟨v, hv, dv⟩ := (q.get i).1 e he
    refine ⟨⟨vs, v, hP, hv⟩, fun x H'' ⟨T, y, ex, hT, eH, h⟩ => ?_⟩
    have h := h vs hP
    rw [hv] at h; cases h
    subst ex eH
    rw [Int.zero_add]
    exact ⟨G', new_pair rs hT rfl dv⟩
  · have := List.getElem?_eq_none_iff.mp hn
    rw [numb_len] at this
    rw [q.length]; exact this
def lkZ : Src → Src → Src
  | .st ds, .st es => .st (pairs ds es)
  | a, b => .lv fun S => match look a S, look b S with
    | some ds, some es => some (pairs ds es)
    | _, _ => none
theorem lkZ_look {a b : Src} {S : Sto} {ds : List D} (h : look (lkZ a b) S = some ds) : ∃ es fs, look a S = some es ∧ look b S = some fs ∧ ds = pairs es fs := by
  have h2 : (match look a S, look b S with
    | some ds, some es => some (pairs ds es)
    | _, _ => none) = some ds := by
    cases a <;> cases b <;> exact h
  split at h2
  · rename_i es fs e1 e2
    cases h2
    exact ⟨es, fs, e1, e2, rfl⟩
  · cases h2
theorem pairs_get : ∀ (ds es : List D) (i : Nat), (∀ d, (pairs ds es)[i]? = some d → ∃ a b, ds[i]? = some a ∧ es[i]? = some b ∧ d = .tup [a, b]) ∧ ((pairs ds es)[i]? = none → ds.length ≤ i ∨ es.length ≤ i)
  | [], es, i => ⟨fun d h => by simp [pairs] at h, fun _ => .inl (Nat.zero_le _)⟩
  | _ :: _, [], i => ⟨fun d h => by simp [pairs] at h, fun _ => .inr (Nat.zero_le _)⟩
  | a :: ds, b :: es, 0 => ⟨fun d h => by simp [pairs] at h; exact ⟨a, b, rfl, rfl, h.symm⟩, fun h => by simp [pairs] at h⟩
  | a :: ds, b :: es, i + 1 => by
    obtain ⟨h1, h2⟩ := pairs_get ds es i
    refine ⟨fun d h => ?_, fun h => ?_⟩
    · simp [pairs] at h; simpa using h1 d h
    · have h : (pairs ds es)[i]? = none := by simpa [pairs] using h
      rcases h2 h with z | z
      · exact .inl (Nat.succ_le_succ z)
      · exact .inr (Nat.succ_le_succ z)
theorem relI_zip {U : Wd} {G : Gh} {H : Hp} {s1 s2 : Src} {a b : Addr} (hs : Seqs U G H s1 fun H' vs => SqL U.K H' a vs) (ht : Seqs U G H s2 fun H' vs => SqL U.K H' b vs) : relI U G H (lkZ s1 s2) (Itz U.K a b) := by
  intro G' H' S ds s rs hl i
  obtain ⟨es, fs, h1, h2, rfl⟩ := lkZ_look hl
  obtain ⟨vs, hP, q⟩ := hs G' H' S es s rs h1
  obtain ⟨ws, hQ, r⟩ := ht G' H' S fs s rs h2
  refine ⟨fun d hd => ?_, fun hn => ⟨vs, ws, hP, hQ, ?_⟩⟩
  · obtain ⟨x, y, hx, hy, rfl⟩ := (pairs_get es fs i).1 d hd
    obtain ⟨v, hv, dv⟩ := (q.get i).1 x hx
    obtain ⟨w, hw, dw⟩ := (r.get i).1 y hy
    refine ⟨⟨vs, ws, v, w, hP, hQ, hv, hw⟩, fun z H'' ⟨T, x', y', ex, hT, eH, h, k⟩ => ?_⟩
    have h := h vs hP
    have k := k ws hQ
    rw [hv] at h; cases h
    rw [hw] at k; cases k
    subst ex eH
    exact ⟨G', new_pair rs hT dv dw⟩
  · rw [q.length, r.length]; exact (pairs_get es fs i).2 hn
theorem relI_zipT {U : Wd} {G : Gh} {H : Hp} {s1 s2 : Src} {a b : Addr} (hs : Seqs U G H s1 fun H' vs => SqT U.K H' a vs) (ht : Seqs U G H s2 fun H' vs => SqT U.K H' b vs) : relI U G H (lkZ s1 s2) (RZ.ItzT U.K a b) := by
  intro G' H' S ds s rs hl i
  obtain ⟨es, fs, h1, h2, rfl⟩ := lkZ_look hl
  obtain ⟨vs, hP, q⟩ := hs G' H' S es s rs h1
  obtain ⟨ws, hQ, r⟩ := ht G' H' S fs s rs h2
  refine ⟨fun d hd => ?_, fun hn => ⟨vs, ws, hP, hQ, ?_⟩⟩
  · obtain ⟨x, y, hx, hy, rfl⟩ := (pairs_get es fs i).1 d hd
    obtain ⟨v, hv, dv⟩ := (q.get i).1 x hx
    obtain ⟨w, hw, dw⟩ := (r.get i).1 y hy
    refine ⟨⟨vs, ws, v, w, hP, hQ, hv, hw⟩, fun z H'' ⟨T, x', y', ex, hT, eH, h, k⟩ => ?_⟩
    have h := h vs hP
    have k := k ws hQ
    rw [hv] at h; cases h
    rw [hw] at k; cases k
    subst ex eH
    exact ⟨G', new_pair rs hT dv dw⟩
  · rw [q.length, r.length]; exact (pairs_get es fs i).2 hn
end Z

/-! Z11: walks, loops, op=, defs. -/
namespace Z
open PySem PySem.Spec PyProof PyProof.Rows L2
section
variable {X : Cx} {pos : Pos} {tg : Expr}
/-! ### the walk's beginning -/
def iAny (K : PySem.W.Frag) (tl : TE) : TI := fun σ H R => tl σ H fun x H1 => (∃ a, x = .ref a ∧ (∃ xs, SqL K H1 a xs) ∧ R (Itl K a) H1) ∨ (∃ a, x = .ref a ∧ (∃ xs, SqT K H1 a xs) ∧ R (Itt K a) H1) ∨ ∃ z, x = .str z ∧ R (Its z) H1
theorem pi_any {l : Expr} {tl : TE} (hl : PE X l tl) : PI X tg l (iAny X.K tl) := by
  refine ⟨fun pins s σ H R I h => ?_⟩
  refine thn (hl.run pins s σ H _ I h) fun v s1 ⟨x, H1, I1, r1, q1⟩ => ?_
  rcases q1 with ⟨a, rfl, ⟨xs, hq⟩, q⟩ | ⟨a, rfl, ⟨xs, hq⟩, q⟩ | ⟨z, rfl, q⟩
  · cases r1
    obtain ⟨its, rv, p, hz⟩ := I1.list hq
    exact wpAny_pyIter_list p.isList (pi_one (tk := s1.toks) I1 _ (turn_list a _) ⟨_, Heap.get?_push_size _ rfl, rfl, rfl⟩ q)
  · cases r1
    obtain ⟨its, rv, p, hz⟩ := I1.tuple hq
    exact wpAny_pyIter_tuple (show s1.heap.IsTuple a its.toArray from p) (pi_one (tk := s1.toks) I1 _ (turn_tuple a _) ⟨_, Heap.get?_push_size _ rfl, rfl, rfl⟩ q)
  · obtain ⟨t, rfl⟩ := r1
    cases ha : z.cps.all (· < 128)
    · exact wpAny_pyIter_wide ha (pi_one (tk := s1.toks) I1 _ (turn_str _ z t "str_iterator" (.inr rfl)) ⟨_, Heap.get?_push_size _ rfl, rfl, rfl⟩ q)
    · exact wpAny_pyIter_ascii ha (pi_one (tk := s1.toks) I1 _ (turn_str _ z t "str_ascii_iterator" (.inl rfl)) ⟨_, Heap.get?_push_size _ rfl, rfl, rfl⟩ q)
def iSrc (m : E) : EI := fun ρ S => (m ρ S).bind fun d S => match d with
  | .str l => .ok (.st (signs l)) S
  | d => (match srcOf d S with
    | some src => .ok src S
    | none => .bad)
theorem ci_any {l : Expr} {m : E} (hl : CE X l m) : CI X tg l (iSrc m) := fun W tk => PI.imp (pi_any (hl W tk)) fun σ H R ⟨G, ρ, S, rs, re, h⟩ => by
  obtain ⟨G0, ρ0, S0, a, b, c⟩ := tEv.bind rs re h
  refine ⟨G0, ρ0, S0, a, b, Go.mono c fun v H1 ⟨G1, d, S1, s, rs1, re1, dv, g⟩ => ?_⟩
  have other : ∀ src, srcOf d S1 = some src → Go (relI (wd X)) (wd X) W σ G1 H1 (.ok src S1) (fun J H' => R J H') → (∃ a, v = .ref a ∧ (∃ xs, SqL X.K H1 a xs) ∧ R (Itl X.K a) H1) ∨ (∃ a, v = .ref a ∧ (∃ xs, SqT X.K H1 a xs) ∧ R (Itt X.K a) H1) ∨ ∃ z, v = .str z ∧ R (Its z) H1 := fun src e g => by
    obtain ⟨a, rfl, h⟩ := srcOf_ok rs1 dv e
    rcases h with ⟨h1, h2⟩ | ⟨h1, h2⟩
    · exact .inl ⟨a, rfl, h1, Go.ret g rs1 (relI_list h2)⟩
    · exact .inr (.inl ⟨a, rfl, h1, Go.ret g rs1 (relI_tup h2)⟩)
  cases d with
  | str l =>
    have dv : v = _ := dv
    subst dv
    exact .inr (.inr ⟨_, rfl, Go.ret g rs1 relI_str⟩)
  | tup ds => exact other _ rfl g
  | lst ds => exact other _ rfl g
  | ref n =>
    dsimp only at g
    cases e : srcOf (.ref n) S1 with
    | none => rw [e] at g; exact g.elim
    | some src => rw [e] at g; exact other src e g
  | _ => exact g.elim
def small (i : Int) : Bool := decide (-16777216 ≤ i ∧ i ≤ 16777216)
theorem small_of {i : Int} (h : small i = true) : -16777216 ≤ i ∧ i ≤ 16777216 := of_decide_eq_true h
def iRg1 (ma : As) : EI := fun ρ S => (ma ρ S).bind fun ds S => match ds with
  | [.int j] => if small j = true then .ok (.st (irow 0 j.toNat)) S else .bad
  | _ => .bad
def iRg2 (ma : As) : EI := fun ρ S => (ma ρ S).bind fun ds S => match ds with
  | [.int i, .int j] => if small i = true ∧ small j = true then .ok (.st (irow i (j - i).toNat)) S else .bad
  | _ => .bad
theorem ci_range1 {a : Expr} {ma : As} {p : Pos} (hg : Gl X "range") (hm : X.mg "range" = none) (ha : CA X [a] ma) (hs : starEach [a] X.env = [(false, eval a X.env)] := by rfl) : CI X tg (.Call (.Name "range" p) [a] [] pos) (iRg1 ma) := fun W tk => PI.imp (pi_range1 hg hm (ha W tk) hs) fun σ H R ⟨G, ρ, S, rs, re, h⟩ => by
  obtain ⟨G0, ρ0, S0, a, b, c⟩ := tAv.bind rs re h
  refine ⟨G0, ρ0, S0, a, b, Go.mono c fun vs H1 ⟨G1, ds, S1, s, rs1, re1, dvs, g⟩ => ?_⟩
  split at g
  · rename_i j
    obtain ⟨v, r, rfl, q1, q2⟩ := dvs
    have q2 : r = [] := q2
    have q1 : v = _ := q1
    subst q1 q2
    split at g
    · rename_i hj
      have := small_of hj
      exact ⟨j, rfl, by omega, by omega, Go.ret g rs1 relI_rng⟩
    · exact g.elim
  · exact g.elim
theorem ci_range2 {a b : Expr} {ma : As} {p : Pos} (hg : Gl X "range") (hm : X.mg "range" = none) (ha : CA X [a, b] ma) (hs : starEach [a, b] X.env = [(false, eval a X.env), (false, eval b X.env)] := by rfl) (hs2 : starEach [b] X.env = [(false, eval b X.env)] := by rfl) :
    CI X tg (.Call (.Name "range" p) [a, b] [] pos) (iRg2 ma) := fun W tk => PI.imp (pi_range2 hg hm (ha W tk) hs hs2) fun σ H R ⟨G, ρ, S, rs, re, h⟩ => by
  obtain ⟨G0, ρ0, S0, a, b, c⟩ := tAv.bind rs re h
  refine ⟨G0, ρ0, S0, a, b, Go.mono c fun vs H1 ⟨G1, ds, S1, s, rs1, re1, dvs, g⟩ => ?_⟩
  split at g
  · rename_i i j
    obtain ⟨v, r, rfl, q1, w, r2, rfl, q3, q2⟩ := dvs
    have q2 : r2 = [] := q2
    have q1 : v = _ := q1
    have q3 : w = _ := q3
    subst q1 q2 q3
    split at g
    · rename_i hj
      have := small_of hj.1
      have := small_of hj.2
      exact ⟨i, j, rfl, by omega, Go.ret g rs1 relI_rng⟩
    · exact g.elim
  · exact g.elim
/-- enumerate(..) -/
def iEnumA (K : PySem.W.Frag) (ta : TA) : TI := fun σ H R => ta σ H fun vs H1 => ∃ a, vs = [.ref a] ∧ (((∃ xs, SqL K H1 a xs) ∧ R (Ite K a) H1) ∨ ((∃ xs, SqT K H1 a xs) ∧ R (IteT K a) H1))
theorem pi_enumA {e : Expr} {ta : TA} {p tpos : Pos} {elts : List Expr} {kk : Nat} (hg : Gl X "enumerate") (hm : X.mg "enumerate" = none) (ha : PA X [e] ta) (hs : starEach [e] X.env = [(false, eval e X.env)] := by rfl) :
    PI X (.Tuple elts kk tpos) (.Call (.Name "enumerate" p) [e] [] pos) (iEnumA X.K ta) := by
  refine ⟨fun pins s σ H R I h => ?_⟩
  refine Call_ (ld_blt I hg hm boot_enumerate (PyProof.Rows.callWith_type1 (thn (ha.run pos pins s σ H _ I h) fun us s1 ⟨vs, H1, I1, r1, q1⟩ => ?_) hs rfl))
  obtain ⟨a, ex, q1⟩ := q1
  subst ex
  cases r1 with
  | cons r rr =>
    cases rr
    cases r
    have two : ∀ {b : Addr}, b ∈ [s1.heap.objs.size + 1, s1.heap.objs.size] → FpOk X pins H1 b := fun {b} hb => by
      have e' : b = s1.heap.objs.size + 1 ∨ b = s1.heap.objs.size := by simpa using hb
      have hle : s1.heap.objs.size ≤ b := by
        rcases e' with z | z
        · rw [z]; exact Nat.le_add_right _ _
        · rw [z]; exact Nat.le_refl _
      exact I1.fpOk hle (I1.hok.fresh hle)
    rcases q1 with ⟨⟨xs, hq⟩, q⟩ | ⟨⟨xs, hq⟩, q⟩
    · obtain ⟨its, rv, p', hz⟩ := I1.list hq
      refine call_enumerate_list p'.isList fun h' he hit hsz hk => wpAny_pyIter_enum he ?_
      have I2 : Inv X pins σ H1 { s1 with heap := h' } := I1.kept (t' := s1.toks) hk
      exact ⟨s1.heap.objs.size + 1, [s1.heap.objs.size + 1, s1.heap.objs.size], _, _, H1, rfl, I2, turn_enum a (s1.heap.objs.size + 1) s1.heap.objs.size, ⟨⟨.none, he⟩, hit, Nat.succ_ne_self _⟩, fun b hb => two hb, q⟩
    · obtain ⟨its, rv, p', hz⟩ := I1.tuple hq
      refine enum_begins1 (begins_tuple a its.toArray) p' fun h' he hit hsz hk => wpAny_pyIter_enum he ?_
      have I2 : Inv X pins σ H1 { s1 with heap := h' } := I1.kept (t' := s1.toks) hk
      have hlt : a < s1.heap.objs.size := by obtain ⟨o, e, _⟩ := p'; exact Heap.lt_size e
      exact ⟨s1.heap.objs.size + 1, [s1.heap.objs.size + 1, s1.heap.objs.size], _, _, H1, rfl, I2, turn_enumT a (s1.heap.objs.size + 1) s1.heap.objs.size (Nat.ne_of_lt hlt) (Nat.ne_of_lt (Nat.lt_succ_of_lt hlt)), ⟨⟨.none, he⟩, ⟨_, hit, rfl, rfl⟩, Nat.succ_ne_self _⟩, fun b hb => two hb, q⟩
def iEn (ma : As) : EI := fun ρ S => (ma ρ S).bind fun ds S => match ds with
  | [d] => (match srcOf d S with
    | some src => .ok (lkE (numb 0) src) S
    | none => .bad)
  | _ => .bad
theorem ci_enum {e : Expr} {ma : As} {p tpos : Pos} {elts : List Expr} {kk : Nat} (hg : Gl X "enumerate") (hm : X.mg "enumerate" = none) (ha : CA X [e] ma) (hs : starEach [e] X.env = [(false, eval e X.env)] := by rfl) :
    CI X (.Tuple elts kk tpos) (.Call (.Name "enumerate" p) [e] [] pos) (iEn ma) := fun W tk => PI.imp (pi_enumA hg hm (ha W tk) hs) fun σ H R ⟨G, ρ, S, rs, re, h⟩ => by
  obtain ⟨G0, ρ0, S0, a, b, c⟩ := tAv.bind rs re h
  refine ⟨G0, ρ0, S0, a, b, Go.mono c fun vs H1 ⟨G1, ds, S1, s, rs1, re1, dvs, g⟩ => ?_⟩
  split at g
  · rename_i d
    obtain ⟨v, r, rfl, q1, q2⟩ := dvs
    have q2 : r = [] := q2
    subst q2
    split at g
    · rename_i src e
      obtain ⟨a, rfl, h⟩ := srcOf_ok rs1 q1 e
      refine ⟨a, rfl, ?_⟩
      rcases h with ⟨h1, h2⟩ | ⟨h1, h2⟩
      · exact .inl ⟨h1, Go.ret g rs1 (relI_enL h2)⟩
      · exact .inr ⟨h1, Go.ret g rs1 (relI_enT h2)⟩
    · exact g.elim
  · exact g.elim
def isTupD : D → Bool
  | .tup _ => true
  | _ => false
def iZp (ma : As) : EI := fun ρ S => (ma ρ S).bind fun ds S => match ds with
  | [d, e] => if isTupD d = isTupD e then (match srcOf d S, srcOf e S with
    | some s1, some s2 => .ok (lkZ s1 s2) S
    | _, _ => .bad) else .bad
  | _ => .bad
theorem srcOf_ok2 {U : Wd} {G : Gh} {S : Sto} {H : Hp} {d : D} {v : V} {src : Src} (rs : RelS U G S H) (q : DV U G H d v) (h : srcOf d S = some src) : ∃ a, v = .ref a ∧ ((isTupD d = false ∧ (∃ xs, SqL U.K H a xs) ∧ Seqs U G H src fun H' vs => SqL U.K H' a vs) ∨ (isTupD d = true ∧ (∃ xs, SqT U.K H a xs) ∧ Seqs U G H src fun H' vs => SqT U.K H' a vs)) := by
  have z := h
  cases d with
  | lst ds =>
    cases h
    obtain ⟨a, vs, rfl, t, q⟩ := q
    refine ⟨a, rfl, .inl ⟨rfl, ⟨vs, t.sq⟩, fun G' H' S ds' s rs hl => ?_⟩⟩
    cases hl
    exact ⟨vs, (t.mono s).sq, q.mono s⟩
  | tup ds =>
    cases h
    obtain ⟨a, vs, rfl, t, q⟩ := q
    refine ⟨a, rfl, .inr ⟨rfl, ⟨vs, t.sq⟩, fun G' H' S ds' s rs hl => ?_⟩⟩
    cases hl
    exact ⟨vs, (t.mono s).sq, q.mono s⟩
  | ref n =>
    unfold srcOf at h
    dsimp only at h
    cases e : S.get n with
    | none => rw [e] at h; cases h
    | some o =>
      rw [e] at h
      cases o with
      | lst ds =>
        cases h
        obtain ⟨hn, rfl⟩ := q
        obtain ⟨vs, e1, q⟩ := rs.at_ n _ e
        refine ⟨_, rfl, .inl ⟨rfl, ⟨vs, .inl (.inl e1)⟩, fun G' H' S' ds' s rs' hl => ?_⟩⟩
        have hl : refv n S' = some ds' := hl
        unfold refv at hl
        split at hl
        · rename_i ds2 e2
          cases hl
          obtain ⟨ws, e3, q3⟩ := rs'.at_ n _ e2
          rw [s.ι n hn] at e3
          exact ⟨ws, .inl (.inl e3), q3⟩
        · cases hl
      | _ => cases h
  | _ => cases h
theorem ci_zip {e e2 : Expr} {ma : As} {p tpos : Pos} {elts : List Expr} {kk : Nat} (hg : Gl X "zip") (hm : X.mg "zip" = none) (ha : CA X [e, e2] ma)
    (hs : starEach [e, e2] X.env = (false, eval e X.env) :: starEach [e2] X.env := by rfl) (hpl : (backTo pos (starEach [e2] X.env)).any (·.1) = false := by rfl) :
    CI X (.Tuple elts kk tpos) (.Call (.Name "zip" p) [e, e2] [] pos) (iZp ma) := fun W tk => PI.imp (RZ.pi_zipA hg hm (ha W tk) hs hpl) fun σ H R ⟨G, ρ, S, rs, re, h⟩ => by
  obtain ⟨G0, ρ0, S0, a, b, c⟩ := tAv.bind rs re h
  refine ⟨G0, ρ0, S0, a, b, Go.mono c fun vs H1 ⟨G1, ds, S1, s, rs1, re1, dvs, g⟩ => ?_⟩
  split at g
  · rename_i d e
    obtain ⟨v, r, rfl, q1, w, r2, rfl, q3, q2⟩ := dvs
    have q2 : r2 = [] := q2
    subst q2
    split at g
    · rename_i hb
      split at g
      · rename_i s1 s2 e1 e2
        obtain ⟨a, rfl, h⟩ := srcOf_ok2 rs1 q1 e1
        obtain ⟨b, rfl, k⟩ := srcOf_ok2 rs1 q3 e2
        rcases h with ⟨t1, ⟨xs, h1⟩, h2⟩ | ⟨t1, ⟨xs, h1⟩, h2⟩ <;> rcases k with ⟨t2, ⟨ys, k1⟩, k2⟩ | ⟨t2, ⟨ys, k1⟩, k2⟩
        · exact ⟨a, b, xs, ys, rfl, .inl ⟨h1, k1, Go.ret g rs1 (relI_zip h2 k2)⟩⟩
        · rw [t1, t2] at hb; cases hb
        · rw [t1, t2] at hb; cases hb
        · exact ⟨a, b, xs, ys, rfl, .inr ⟨h1, k1, Go.ret g rs1 (relI_zipT h2 k2)⟩⟩
      · exact g.elim
    · exact g.elim
  · exact g.elim

/-! ### for, while -/
def forS (turn : D → C) : List D → C
  | [] => fun ρ S => .nx ρ S
  | d :: ds => fun ρ S => match turn d ρ S with
    | .nx ρ' S' => forS turn ds ρ' S'
    | .ct ρ' S' => forS turn ds ρ' S'
    | .bk ρ' S' => .nx ρ' S'
    | .rt d S' => .rt d S'
    | .ex x ρ' S' => .ex x ρ' S'
    | .bad => .bad
def forI (turn : D → C) (src : Src) : Nat → Nat → C
  | 0, _ => fun _ _ => .bad
  | k + 1, i => fun ρ S => match look src S with
    | none => .bad
    | some ds => (match ds[i]? with
      | none => .nx ρ S
      | some d => (match turn d ρ S with
        | .nx ρ' S' => forI turn src k (i + 1) ρ' S'
        | .ct ρ' S' => forI turn src k (i + 1) ρ' S'
        | .bk ρ' S' => .nx ρ' S'
        | .rt d S' => .rt d S'
        | .ex x ρ' S' => .ex x ρ' S'
        | .bad => .bad))
theorem forS_I {turn : D → C} {ds : List D} : ∀ (k i : Nat), ds.length < k + i → i ≤ ds.length → ∀ ρ S, forI turn (.st ds) k i ρ S = forS turn (ds.drop i) ρ S
  | 0, i, h, hi, ρ, S => by omega
  | k + 1, i, h, hi, ρ, S => by
    unfold forI
    show (match ds[i]? with | none => _ | some d => _) = _
    cases e : ds[i]? with
    | none =>
      have := List.getElem?_eq_none_iff.mp e
      rw [List.drop_of_length_le this]
      rfl
    | some d =>
      obtain ⟨hl, hd⟩ := List.getElem?_eq_some_iff.mp e
      rw [List.drop_eq_getElem_cons hl, hd]
      have ih := forS_I (turn := turn) (ds := ds) k (i + 1) (by omega) hl
      show (match turn d ρ S with | .nx ρ' S' => _ | .ct ρ' S' => _ | .bk ρ' S' => _ | .rt d S' => _ | .ex x ρ' S' => _ | .bad => _) = forS turn (d :: ds.drop (i + 1)) ρ S
      unfold forS
      cases turn d ρ S with
      | nx ρ' S' => exact ih ρ' S'
      | ct ρ' S' => exact ih ρ' S'
      | bk ρ' S' => rfl
      | rt d S' => rfl
      | ex x ρ' S' => rfl
      | bad => rfl
def turnS (g : Tg) (body : C) : D → C := fun d ρ S => match g d ρ S with
  | some ρ' => body ρ' S
  | none => .bad
def sFor (mi : EI) (g : Tg) (body : C) : C := fun ρ S => (mi ρ S).toS ρ fun src S => match src with
  | .st ds => forS (turnS g body) ds ρ S
  | .lv f => (match f S with
    | some ds => forI (turnS g body) (.lv f) (ds.length + 1) 0 ρ S
    | none => .bad)
theorem sFor_I {g : Tg} {body : C} {src : Src} {ρ : Env} {S : Sto} : ∃ k, (match src with
  | .st ds => forS (turnS g body) ds ρ S
  | .lv f => (match f S with
    | some ds => forI (turnS g body) (.lv f) (ds.length + 1) 0 ρ S
    | none => .bad)) = forI (turnS g body) src k 0 ρ S := by
  cases src with
  | st ds => exact ⟨ds.length + 1, by rw [forS_I _ 0 (by omega) (Nat.zero_le _)]; rfl⟩
  | lv f =>
    cases e : f S with
    | none => exact ⟨0, by show (match f S with | some ds => _ | none => _) = _; rw [e]; rfl⟩
    | some ds => exact ⟨ds.length + 1, by show (match f S with | some ds => _ | none => _) = _; rw [e]⟩
theorem cs_for {iter : Expr} {body : List Stmt} {mi : EI} {g : Tg} {sl : List Nat} {mb : C} (hp : PassesOwn (model X.prog X.w) X.A X.env X.xe) (hc : X.calm = true) (hi : CI X tg iter mi) (hg : CG X tg sl g) (hb : CSs X body mb)
    (hs : ∀ x, foldedSetIterable iter X.env x = pure x := by intro _; rfl) : CS X (.For tg iter body [] pos) (sFor mi g mb) := fun W tk => PS.imp (ps_for hp hc (hi W tk) hg (hb W tk) hs) fun D σ H ⟨G, ρ, S, rs, re, h⟩ => by
  refine ⟨G, ρ, S, rs, re, Go.mono (GoS.bind (rel := relI (wd X)) re h) fun J H1 ⟨G1, src, S1, s1, rs1, re1, ri, g1⟩ => ?_⟩
  obtain ⟨k, ek⟩ := sFor_I (g := g) (body := mb) (src := src) (ρ := ρ) (S := S1)
  rw [ek] at g1
  refine ⟨fun i m σ' H' => ∃ G' ρ' S', Step G1 H1 G' H' ∧ RelS (wd X) G' S' H' ∧ RelE (wd X) G' ρ' σ' H' ∧ GoS (wd X) W G' H' (forI (turnS g mb) src m i ρ' S') D, ⟨k, G1, ρ, S1, Step.refl, rs1, re1, g1⟩, ?_⟩
  intro i m σ2 H2 ⟨G2, ρ2, S2, s2, rs2, re2, g2⟩
  cases m with
  | zero => exact g2.elim
  | succ m =>
    unfold forI at g2
    cases el : look src S2 with
    | none => rw [el] at g2; exact g2.elim
    | some ds =>
      rw [el] at g2
      dsimp only at g2
      obtain ⟨r1, r2⟩ := ri G2 H2 S2 ds s2 rs2 el i
      cases ed : ds[i]? with
      | none => rw [ed] at g2; exact .inl ⟨r2 ed, GoS.nx_ g2 rs2 re2⟩
      | some d =>
        rw [ed] at g2
        dsimp only at g2
        obtain ⟨go, yl⟩ := r1 d ed
        refine .inr ⟨go, fun σ' H' => ∃ m', m' < m + 1 ∧ ∃ G' ρ' S', Step G1 H1 G' H' ∧ RelS (wd X) G' S' H' ∧ RelE (wd X) G' ρ' σ' H' ∧ GoS (wd X) W G' H' (forI (turnS g mb) src m' (i + 1) ρ' S') D, fun σ' H' h => h, fun x H3 hy => ?_⟩
        obtain ⟨G3, s3, rs3, dv⟩ := yl x H3 hy
        refine ⟨G3, ρ2, S2, d, rs3, re2.mono s3, dv, ?_⟩
        have g3 := GoS.step s3 g2
        unfold turnS at g3
        cases eg : g d ρ2 S2 with
        | none => rw [eg] at g3; exact g3.elim
        | some ρ3 =>
          rw [eg] at g3
          dsimp only at g3
          intro σ4 re4 _
          refine ⟨G3, ρ3, S2, rs3, re4, ?_⟩
          cases eb : mb ρ3 S2 with
          | nx ρ' S' => rw [eb] at g3; exact fun G' σ' H' s r e => ⟨m, Nat.lt_succ_self m, G', ρ', S', s2.trans (s3.trans s), r, e, GoS.step s g3⟩
          | ct ρ' S' => rw [eb] at g3; exact fun G' σ' H' s r e => ⟨m, Nat.lt_succ_self m, G', ρ', S', s2.trans (s3.trans s), r, e, GoS.step s g3⟩
          | bk ρ' S' => rw [eb] at g3; exact g3
          | rt d S' => rw [eb] at g3; exact g3
          | ex x ρ' S' => rw [eb] at g3; exact g3
          | bad => rw [eb] at g3; exact g3
def whileS (t : T) (body : C) : Nat → C
  | 0 => fun _ _ => .bad
  | k + 1 => fun ρ S => (t ρ S).toS ρ fun b S1 => if b = true then (match body ρ S1 with
    | .nx ρ' S' => whileS t body k ρ' S'
    | .ct ρ' S' => whileS t body k ρ' S'
    | .bk ρ' S' => .nx ρ' S'
    | .rt d S' => .rt d S'
    | .ex x ρ' S' => .ex x ρ' S'
    | .bad => .bad) else .nx ρ S1
theorem cs_while (k : Nat) {e : Expr} {body : List Stmt} {t : T} {mb : C} (hp : PassesOwn (model X.prog X.w) X.A X.env X.xe) (hc : CT X e t) (hb : CSs X body mb) : CS X (.While e body [] pos) (whileS t mb k) := fun W tk => PS.imp (ps_while hp (hc W tk) (hb W tk)) fun D σ H ⟨G, ρ, S, rs, re, h⟩ => by
  refine ⟨fun m σ' H' => ∃ G' ρ' S', RelS (wd X) G' S' H' ∧ RelE (wd X) G' ρ' σ' H' ∧ GoS (wd X) W G' H' (whileS t mb m ρ' S') D, ⟨k, G, ρ, S, rs, re, h⟩, ?_⟩
  intro m σ1 H1 ⟨G1, ρ1, S1, rs1, re1, g1⟩
  cases m with
  | zero => exact g1.elim
  | succ m =>
    unfold whileS at g1
    obtain ⟨G0, ρ0, S0, a, b, c⟩ := tTv.toS rs1 re1 g1
    refine ⟨G0, ρ0, S0, a, b, Go.mono c fun v H2 ⟨G2, S2, s2, rs2, re2, g2⟩ => ?_⟩
    by_cases ev : v = true
    · rw [if_pos ev] at g2 ⊢
      refine ⟨fun σ' H' => ∃ m', m' < m + 1 ∧ ∃ G' ρ' S', RelS (wd X) G' S' H' ∧ RelE (wd X) G' ρ' σ' H' ∧ GoS (wd X) W G' H' (whileS t mb m' ρ' S') D, fun σ' H' h => h, G2, ρ1, S2, rs2, re2, ?_⟩
      cases eb : mb ρ1 S2 with
      | nx ρ' S' => rw [eb] at g2; exact fun G' σ' H' s r e => ⟨m, Nat.lt_succ_self m, G', ρ', S', r, e, GoS.step s g2⟩
      | ct ρ' S' => rw [eb] at g2; exact fun G' σ' H' s r e => ⟨m, Nat.lt_succ_self m, G', ρ', S', r, e, GoS.step s g2⟩
      | bk ρ' S' => rw [eb] at g2; exact g2
      | rt d S' => rw [eb] at g2; exact g2
      | ex x ρ' S' => rw [eb] at g2; exact g2
      | bad => rw [eb] at g2; exact g2
    · rw [if_neg ev] at g2 ⊢
      exact GoS.nx_ g2 rs2 re2
end
end Z

/-! Z12: op=, defs, comprehensions. -/
namespace Z
open PySem PySem.Spec PyProof PyProof.Rows L2
section
variable {X : Cx} {pos : Pos}
/-! ### op= -/
def oAddI : D2 := fun a b S => match a, b with
  | .int i, .int j => .ok (.int (i + j)) S
  | .str x, .str y => if fits (x.length + y.length) = true then .ok (.str (x ++ y)) S else .bad
  | _, _ => .bad
def oSubI : D2 := fun a b S => match a, b with
  | .int i, .int j => .ok (.int (i - j)) S
  | _, _ => .bad
theorem od_iadd : OpD X (inplaceOp .Add) oAddI := fun W σ => OpR.imp (OpR.or iop_add iop_add_str) fun x y H Q ⟨G, S, a, b, rs, qa, qb, g⟩ => by
  unfold oAddI at g
  split at g
  · rename_i i j
    exact .inl ⟨i, j, qa, qb, Go.ret g rs rfl⟩
  · rename_i u v
    split at g
    · rename_i hf
      refine .inr ⟨_, _, qa, qb, by simpa [Str.length] using fits_le hf, ?_⟩
      have e : (⟨u.toArray⟩ : Str) ++ ⟨v.toArray⟩ = ⟨(u ++ v).toArray⟩ := by
        show (⟨_⟩ : Str) = _
        simp
      rw [e]
      exact Go.ret g rs rfl
    · exact g.elim
  · exact g.elim
theorem od_isub : OpD X (inplaceOp .Sub) oSubI := fun W σ => OpR.imp iop_sub fun x y H Q ⟨G, S, a, b, rs, qa, qb, g⟩ => by
  unfold oSubI at g
  split at g
  · rename_i i j
    exact ⟨i, j, qa, qb, Go.ret g rs rfl⟩
  · exact g.elim
/-- of any frame -/
def rDx (U : Wd) (g : D2) (W : WX) : R2 := fun x y H Q => ∃ σ, rD U g W σ x y H Q
theorem cs_aug (i : Nat) {x : Str} {op : Operator} {g : D2} {e : Expr} {m : E} {pos' : Pos} (hN : X.N.Nodup) (ho : OpD X (inplaceOp op) g) (he : CE X e m) (hi : X.N[i]? = some x := by rfl) (hx : Loc X.env.scope x := by first | exact .inl rfl | exact .inr rfl) (hf : X.fn x = true ∨ X.env.scope.names.lookup x = some .local := by first | exact .inr rfl | exact .inl rfl) :
    CS X (.AugAssign (.Name x pos') op e pos) (sAug i g m) := fun W tk => PS.imp (ps_aug (ti := rDx (wd X) g W) hN hi hx (he W tk) (fun pins s σ H x y v u Q I r1 r2 ⟨σ', h⟩ => ho W σ' pins s σ H x y v u Q I r1 r2 h) hf) fun D σ H ⟨G, ρ, S, rs, re, h⟩ => by
  unfold sAug at h
  split at h
  · rename_i a e
    obtain ⟨v, e1, qv⟩ := re.2 i a e
    refine ⟨v, e1, ?_⟩
    obtain ⟨G0, ρ0, S0, a, b, c⟩ := tEv.toS rs re h
    refine ⟨G0, ρ0, S0, a, b, Go.mono c fun y H1 ⟨G1, d, S1, s, rs1, re1, dv, g1⟩ => ?_⟩
    exact ⟨σ, G1, S1, _, d, rs1, qv.mono s, dv, Go.mono (GoS.bind re1 g1) fun z H2 ⟨G2, d2, S2, s2, rs2, re2, dz, g2⟩ => GoS.nx_ g2 rs2 (re2.set i dz)⟩
  · exact h.elim
/-- o[i], by values, as it is asked for op= -/
def oGet : D2 := fun a i S => match rd S a with
  | .lst ds => (match i with
    | .int k => if 0 ≤ k ∧ k < 16777216 then (match ds[k.toNat]? with | some d => .ok d S | none => .bad) else .bad
    | _ => .bad)
  | .dct ks zs => (match keyOf i with
    | some _ => (match dfind ks zs i with | some d => .ok d S | none => .bad)
    | none => .bad)
  | _ => .bad
theorem get_any {k0 : Nat} (hr : Room k0 X.A) {W : WX} : PGet X (rDx (wd X) oGet W) := fun pins s σ H o i ov iv Q I ro ri ⟨σ', G, S, a, j, rs, qa, qj, g⟩ => by
  unfold oGet at g
  split at g
  · rename_i ds e
    split at g
    · rename_i k
      split at g
      · rename_i hk
        split at g
        · rename_i d hd
          obtain ⟨p, vs, rfl, t, q⟩ := rd_lst rs e qa
          obtain ⟨w, hw, dw⟩ := q.at hd
          have qj : i = _ := qj
          subst qj
          cases ro
          obtain ⟨t', rfl⟩ := ri
          obtain ⟨its, r, pl, hz⟩ := I.list t
          obtain ⟨u, hu, ru⟩ := r.get hw
          have hlt : k.toNat < its.length := (List.getElem?_eq_some_iff.mp hu).1
          exact wpAny_getItem_list pl.isList hk.1 (by omega) (by rw [List.getElem?_toArray]; exact hu) ⟨w, H, I, ru, Go.ret g rs dw⟩
        · exact g.elim
      · exact g.elim
    · exact g.elim
  · rename_i ks zs e
    split at g
    · rename_i kk hk
      split at g
      · rename_i d hd
        obtain ⟨p, kvs, rfl, hH, h1, h2⟩ := rd_dct rs e qa
        obtain ⟨w, dg, dw⟩ := (dct_get hH h1 h2 hk qj).1 d hd
        cases ro
        exact d_getItem (Room.u1 hr) I dg ri fun w' s3 I3 rw' => ⟨w, H, I3, rw', Go.ret g rs dw⟩
      · exact g.elim
    · exact g.elim
  · exact g.elim
def sAugS (mo mi me : E) (gp : D2) : C := fun ρ S => (mo ρ S).toS ρ fun a S => (mi ρ S).toS ρ fun j S => (oGet a j S).toS ρ fun x S => (me ρ S).toS ρ fun y S => (gp x y S).toS ρ fun z S => match oSet a j z S with
  | some S' => .nx ρ S'
  | none => .bad
theorem cs_augS {k0 : Nat} {o i e : Expr} {mo mi me : E} {op : Operator} {gp : D2} {tpos : Pos} (hr : Room k0 X.A) (ho : CE X o mo) (hi : CE X i mi) (hop : OpD X (inplaceOp op) gp) (he : CE X e me)
    (ha : ∀ ov iv new, augStore i ov iv new = (do holding [new, ov, iv] (setItem ov iv new); release [new, ov, iv] []; pure .next) := by intros; rfl) : CS X (.AugAssign (.Subscript o i tpos) op e pos) (sAugS mo mi me gp) := fun W tk =>
  PS.imp (ps_augS (tip := rDx (wd X) gp W) (ho W tk) (hi W tk) (get_any (W := W) hr) (he W tk) (fun pins s σ H x y v u Q I r1 r2 ⟨σ', h⟩ => hop W σ' pins s σ H x y v u Q I r1 r2 h) (set_any hr) ha) fun D σ H ⟨G, ρ, S, rs, re, h⟩ => by
    obtain ⟨G0, ρ0, S0, a, b, c⟩ := tEv.toS rs re h
    refine ⟨G0, ρ0, S0, a, b, Go.mono c fun o H1 ⟨G1, d1, S1, s1, rs1, re1, dv1, g1⟩ => ?_⟩
    obtain ⟨G0, ρ0, S0, a, b, c⟩ := tEv.toS rs1 re1 g1
    refine ⟨G0, ρ0, S0, a, b, Go.mono c fun i H2 ⟨G2, d2, S2, s2, rs2, re2, dv2, g2⟩ => ?_⟩
    refine ⟨σ, G2, S2, d1, d2, rs2, dv1.mono s2, dv2, Go.mono (GoS.bind re2 g2) fun x H3 ⟨G3, d3, S3, s3, rs3, re3, dv3, g3⟩ => ?_⟩
    obtain ⟨G0, ρ0, S0, a, b, c⟩ := tEv.toS rs3 re3 g3
    refine ⟨G0, ρ0, S0, a, b, Go.mono c fun y H4 ⟨G4, d4, S4, s4, rs4, re4, dv4, g4⟩ => ?_⟩
    refine ⟨σ, G4, S4, d3, d4, rs4, dv3.mono s4, dv4, Go.mono (GoS.bind re4 g4) fun z H5 ⟨G5, d5, S5, s5, rs5, re5, dv5, g5⟩ => ?_⟩
    refine ⟨G5, S5, d1, d2, d5, rs5, dv1.mono (s2.trans (s3.trans (s4.trans s5))), dv2.mono (s3.trans (s4.trans s5)), dv5, ?_⟩
    cases e1 : oSet d1 d2 d5 S5 with
    | none => rw [e1] at g5; exact g5.elim
    | some S' => rw [e1] at g5; exact fun G' H' s' r' => GoS.nx_ (GoS.step s' g5) r' (re5.mono s')
end

/-! ### defs -/
/-- what every context within a law is -/
structure Std (X : Cx) (k : Nat) : Prop where
  hr : Room k X.A
  hc : X.calm = true
  hN : X.N.Nodup
  hg : X.A.guards = some []
/-- .. of statements -/
structure StdS (X : Cx) (k : Nat) : Prop extends Std X k where
  hp : PassesOwn (model X.prog X.w) X.A X.env X.xe
/-- the frame's slots at the entry -/
def env0 (n N : Nat) (ds : List D) : Env := ds.map some ++ List.replicate (N - n) none
def fnS (n N : Nat) (body : C) : Fn := fun ds S => match body (env0 n N ds) S with
  | .nx _ S' => .ok .non S'
  | .rt d S' => .ok d S'
  | .ex x _ S' => .ex x S'
  | _ => .bad
theorem relE_start {U : Wd} {G : Gh} {H : Hp} {ds : List D} {vs : List V} {N : List Str} {n : Nat} (q : DVs U G H ds vs) (hn : vs.length = n) : RelE U G (env0 n N.length ds) (L2.start N vs) H := by
  subst hn
  unfold env0 L2.start
  have hl := q.length
  refine ⟨by simp [hl], fun i d h => ?_⟩
  by_cases hi : i < ds.length
  · rw [List.getElem?_append_left (by simpa using hi), List.getElem?_map] at h
    cases e : ds[i]? with
    | none => rw [e] at h; cases h
    | some d' =>
      rw [e] at h
      cases h
      obtain ⟨v, hv, dv⟩ := q.at e
      exact ⟨v, by rw [List.getElem?_append_left (by simp; omega), List.getElem?_map, hv]; rfl, dv⟩
  · rw [List.getElem?_append_right (by simp; omega), List.getElem?_replicate] at h
    split at h <;> cases h
section
variable {P : Program} {w : World} {K : PySem.W.Frag} {mg : Str → Option Value} {base : Heap}
/-- a def's own context -/
abbrev cxF (P : Program) (w : World) (K : PySem.W.Frag) (mg : Str → Option Value) (base : Heap) (N : List Str) (qual : Str) (scope : Scope) (f : Addr) (cd : Value) (A : Around) (outer : List PySem.Env) (s : Shared) (H : Hp) (E : XK) : Cx := cxOf (L2.CX P w) P w K mg base N qual scope f cd A outer s H E
theorem fs_of {x qual : Str} {params : Arguments} {bd : List Stmt} {scope : Scope} {f : Addr} {fd : FuncData} {N ps : List Str} {k : Nat} {body : C} (F : FunD K x qual params bd scope [] [] f fd) (Sc : FnScope N ps scope)
    (hb : ∀ (cdv : Value) (A : Around) (outer : List PySem.Env) (s : Shared) (H : Hp) (E : XK), StdS (cxF P w K mg base N qual scope f cdv A outer s H E) k → CSs (cxF P w K mg base N qual scope f cdv A outer s H E) bd body) :
    FS P w K mg base (k + 1) f fd ps (fnS ps.length N.length body) := by
  refine fnG_D F Sc (fun vs H Q E h => h.1) fun cdv A outer s H vs Q E hr hgd ⟨hl, G, S, ds, rs, q, g⟩ => ?_
  have st : StdS (cxF P w K mg base N qual scope f cdv A outer s H E) k := ⟨⟨hr, rfl, Sc.nd, hgd⟩, passes_of (X := cxF P w K mg base N qual scope f cdv A outer s H E) rfl⟩
  refine ⟨_, hb cdv A outer s H E st (fun cls d _ H' => E cls d H') (takes_of (X := cxF P w K mg base N qual scope f cdv A outer s H E) rfl rfl rfl rfl), G, env0 ps.length N.length ds, S, rs, relE_start q hl, ?_⟩
  unfold fnS at g
  cases e : body (env0 ps.length N.length ds) S with
  | nx ρ' S' => rw [e] at g; exact fun G' σ' H' s r re => g G' .non H' s r rfl
  | rt d S' => rw [e] at g; exact g
  | ex x ρ' S' => rw [e] at g; exact fun G' σ' H' cls dd s r re xv => g G' H' cls dd s r xv
  | bk ρ' S' => rw [e] at g; exact g.elim
  | ct ρ' S' => rw [e] at g; exact g.elim
  | bad => rw [e] at g; exact g.elim
end
end Z

/-! Z13: list comprehensions of one source. -/
namespace Z
open PySem PySem.Spec PyProof PyProof.Rows L2
def wipeE (ρ : Env) : List Nat → Env
  | [] => ρ
  | v :: vs => (wipeE ρ vs).set v none
theorem RelE.unset {U : Wd} {G : Gh} {ρ : Env} {σ : L2.St} {H : Hp} (re : RelE U G ρ σ H) (i : Nat) : RelE U G (ρ.set i none) (σ.set i none) H := by
  refine ⟨by rw [List.length_set, List.length_set]; exact re.1, fun j e h => ?_⟩
  rw [List.getElem?_set] at h ⊢
  by_cases hj : i = j
  · rw [if_pos hj] at h ⊢
    split at h <;> cases h
  · rw [if_neg hj] at h ⊢
    exact re.2 j e h
theorem RelE.wipe {U : Wd} {G : Gh} {ρ : Env} {σ : L2.St} {H : Hp} (re : RelE U G ρ σ H) : ∀ vs, RelE U G (wipeE ρ vs) (L2.wipe σ vs) H
  | [] => re
  | v :: vs => (RelE.wipe re vs).unset v
theorem wipe_get {σ : L2.St} {i : Nat} : ∀ {vs : List Nat}, (i ∉ vs → (L2.wipe σ vs)[i]? = σ[i]?) ∧ (i ∈ vs → i < σ.length → (L2.wipe σ vs)[i]? = some none)
  | [] => ⟨fun _ => rfl, fun h => by simp at h⟩
  | v :: vs => by
    obtain ⟨h1, h2⟩ := wipe_get (σ := σ) (i := i) (vs := vs)
    refine ⟨fun h => ?_, fun h hl => ?_⟩
    · show ((L2.wipe σ vs).set v none)[i]? = _
      rw [List.getElem?_set_ne (fun e => h (by simp [e]))]
      exact h1 fun z => h (List.mem_cons_of_mem _ z)
    · show ((L2.wipe σ vs).set v none)[i]? = _
      by_cases e : v = i
      · subst e; rw [List.getElem?_set_self (by rw [wipe_length]; exact hl)]
      · rw [List.getElem?_set_ne e]
        exact h2 ((List.mem_cons.mp h).resolve_left fun z => e z.symm) hl
theorem wipe_diff {σ σ' : L2.St} {sl vs : List Nat} (d : Diff sl σ σ') (h : ∀ i ∈ sl, i ∈ vs) : L2.wipe σ' vs = L2.wipe σ vs := by
  refine List.ext_getElem? fun i => ?_
  by_cases hi : i ∈ vs
  · by_cases hl : i < σ.length
    · rw [wipe_get.2 hi hl, wipe_get.2 hi (by rw [d.1]; exact hl)]
    · rw [List.getElem?_eq_none (by rw [wipe_length, d.1]; omega), List.getElem?_eq_none (by rw [wipe_length]; omega)]
  · rw [wipe_get.1 hi, wipe_get.1 hi]
    exact d.2 i fun z => hi (h i z)
theorem wipe_wipe {σ : L2.St} {vs : List Nat} : L2.wipe (L2.wipe σ vs) vs = L2.wipe σ vs := by
  refine List.ext_getElem? fun i => ?_
  by_cases hi : i ∈ vs
  · by_cases hl : i < σ.length
    · rw [wipe_get.2 hi (by rw [wipe_length]; exact hl), wipe_get.2 hi hl]
    · rw [List.getElem?_eq_none (by rw [wipe_length, wipe_length]; omega), List.getElem?_eq_none (by rw [wipe_length]; omega)]
  · rw [wipe_get.1 hi]

/-! ### a new list in the making is hidden -/
def Gh.hide (G : Gh) (D : Addr) : Gh := ⟨G.n, G.ι, fun a => G.hid a ∨ a = D⟩
theorem NS.hide {G : Gh} {a D : Addr} (h : NS G a) (ne : a ≠ D) : NS (G.hide D) a := ⟨h.1, fun z => z.elim h.2 ne⟩
section
variable {U : Wd} {G Gi : Gh} {S : Sto} {H H1 : Hp} {D : Addr} {o : HO}
theorem hide_step (rs : RelS U G S H) (hD : H D = none) : Step G H (G.hide D) (upd H D o) where
  keep := fun a u h _ => by rw [upd_ne (ne_of_none h hD)]; exact h
  hid := fun _ h => .inl h
  hnew := fun a h => h.elim .inl fun e => .inr (by rw [e]; exact hD)
  le := Nat.le_refl _
  ι := fun _ _ => rfl
  new := fun i h1 h2 => absurd h2 (Nat.not_lt.mpr h1)
  there := fun i hi ⟨u, h⟩ => by rw [upd_ne (ne_of_none h hD)]; exact ⟨u, h⟩
theorem hide_rel (rs : RelS U G S H) (hD : H D = none) (ho : chg o = true) : RelS U (G.hide D) S (upd H D o) where
  wf := rs.wf
  n := rs.n
  at_ := fun i u e => by
    have z := rs.at_ i u e
    obtain ⟨w, hw, _⟩ := z.some
    exact z.mono (hide_step rs hD) (upd_ne (ne_of_none hw hD))
  inj := rs.inj
  hid := fun a z => by
    by_cases e : a = D
    · subst e; exact ⟨o, upd_same, ho⟩
    · obtain ⟨u, h, m⟩ := rs.hid a (z.resolve_right e)
      exact ⟨u, by rw [upd_ne e]; exact h, m⟩
  dis := fun i hi z => by
    rcases z with z | z
    · exact rs.dis i hi z
    · obtain ⟨u, h, _⟩ := rs.some hi
      rw [show G.ι i = D from z, hD] at h; cases h
theorem hid_keep (hD : G.hid D) : Keep G H G (upd H D o) := ⟨fun a u h n => ⟨by rw [upd_ne (fun e => by subst e; exact n.2 hD)]; exact h, n⟩, Nat.le_refl _, fun _ _ => rfl⟩
theorem hid_rel (rs : RelS U G S H) (hD : G.hid D) (ho : chg o = true) : RelS U G S (upd H D o) where
  wf := rs.wf
  n := rs.n
  at_ := fun i u e => by
    have z := rs.at_ i u e
    have hi : i < G.n := by rw [rs.n]; exact Sto.get_lt e
    exact z.kp (hid_keep hD) (upd_ne fun e => rs.dis i hi (by rw [e]; exact hD))
  inj := rs.inj
  hid := fun a z => by
    by_cases e : a = D
    · subst e; exact ⟨o, upd_same, ho⟩
    · obtain ⟨u, h, m⟩ := rs.hid a z
      exact ⟨u, by rw [upd_ne e]; exact h, m⟩
  dis := rs.dis
theorem step_free {G' : Gh} {H' : Hp} (s : Step G H1 G' H') (hD : H1 D = none) : Step G H1 G' (upd H' D o) where
  keep := fun a u h z => by rw [upd_ne (ne_of_none h hD)]; exact s.keep a u h z
  hid := s.hid
  hnew := s.hnew
  le := s.le
  ι := s.ι
  new := s.new
  there := fun i hi ⟨u, h⟩ => by rw [upd_ne (ne_of_none h hD)]; exact s.there i hi ⟨u, h⟩
def Gh.back (Gi G : Gh) : Gh := ⟨Gi.n, Gi.ι, G.hid⟩
theorem back_keep {Si : Sto} {Hi : Hp} (s : Step G H1 Gi Hi) : Keep Gi Hi (Gi.back G) Hi := ⟨fun a u h n => ⟨h, n.1, fun z => n.2 (s.hid a z)⟩, Nat.le_refl _, fun _ _ => rfl⟩
theorem back_step {Hi : Hp} (s : Step G H1 Gi Hi) : Step G H1 (Gi.back G) Hi := ⟨s.keep, fun _ h => h, fun _ h => .inl h, s.le, s.ι, s.new, s.there⟩
theorem back_rel {Si : Sto} {Hi : Hp} (s : Step G H1 Gi Hi) (rs : RelS U Gi Si Hi) : RelS U (Gi.back G) Si Hi where
  wf := rs.wf
  n := rs.n
  at_ := fun i u e => (rs.at_ i u e).kp (back_keep (Si := Si) s) rfl
  inj := rs.inj
  hid := fun a z => rs.hid a (s.hid a z)
  dis := fun i hi z => rs.dis i hi (s.hid _ z)
theorem back_lst {Si : Sto} {Hi : Hp} {ds : List Z.D} {vs : List V} (rs1 : RelS U G S H1) (hD : H1 D = none) (s : Step G H1 Gi Hi) (rs : RelS U Gi Si Hi) (hh : Gi.hid D) (h : Hi D = some (.lst vs)) (q : DVs U Gi Hi ds vs) : DV U (Gi.back G) Hi (.lst ds) (.ref D) := by
  refine ⟨D, vs, rfl, ⟨.inl h, fun i hi e => rs.dis i hi (by rw [show Gi.ι i = D from e]; exact hh), fun z => ?_⟩, q.kp (back_keep (Si := Si) s)⟩
  obtain ⟨u, w, _⟩ := rs1.hid D z
  rw [hD] at w; cases w
end

/-! ### [e for target in source if ..] -/
def lcT (g : Tg) (t : T) (e : E) (ρ : Env) (d : D) (S : Sto) : R (Option D) := match g d ρ S with
  | none => .bad
  | some ρ' => (t ρ' S).bind fun b S => if b = true then (e ρ' S).bind fun y S => .ok (some y) S else .ok none S
def lcS (turn : D → Sto → R (Option D)) : List D → Sto → R (List D)
  | [], S => .ok [] S
  | d :: ds, S => match turn d S with
    | .ok (some y) S' => (match lcS turn ds S' with
      | .ok ys S2 => .ok (y :: ys) S2
      | _ => .bad)
    | .ok none S' => lcS turn ds S'
    | _ => .bad
def lcI (turn : D → Sto → R (Option D)) (src : Src) : Nat → Nat → Sto → R (List D)
  | 0, _, _ => .bad
  | k + 1, i, S => match look src S with
    | none => .bad
    | some ds => (match ds[i]? with
      | none => .ok [] S
      | some d => (match turn d S with
        | .ok (some y) S' => (match lcI turn src k (i + 1) S' with
          | .ok ys S2 => .ok (y :: ys) S2
          | _ => .bad)
        | .ok none S' => lcI turn src k (i + 1) S'
        | _ => .bad))
theorem lcS_I {turn : D → Sto → R (Option D)} {ds : List D} : ∀ (k i : Nat), ds.length < k + i → i ≤ ds.length → ∀ S, lcI turn (.st ds) k i S = lcS turn (ds.drop i) S
  | 0, i, h, hi, S => by omega
  | k + 1, i, h, hi, S => by
    unfold lcI
    show (match ds[i]? with | none => _ | some d => _) = _
    cases e : ds[i]? with
    | none =>
      have := List.getElem?_eq_none_iff.mp e
      rw [List.drop_of_length_le this]
      rfl
    | some d =>
      obtain ⟨hl, hd⟩ := List.getElem?_eq_some_iff.mp e
      rw [List.drop_eq_getElem_cons hl, hd]
      have ih := lcS_I (turn := turn) (ds := ds) k (i + 1) (by omega) hl
      show _ = lcS turn (d :: ds.drop (i + 1)) S
      show (match turn d S with
        | .ok (some y) S' => (match lcI turn (.st ds) k (i + 1) S' with
          | .ok ys S2 => (.ok (y :: ys) S2 : R (List D))
          | _ => .bad)
        | .ok none S' => lcI turn (.st ds) k (i + 1) S'
        | _ => .bad) = _
      unfold lcS
      cases turn d S with
      | ok o S' =>
        cases o with
        | none => exact ih S'
        | some y => dsimp only; rw [ih S']
      | ex x S' => rfl
      | bad => rfl
def lcRun (turn : D → Sto → R (Option D)) (src : Src) (S : Sto) : R (List D) := match src with
  | .st ds => lcS turn ds S
  | .lv f => (match f S with
    | some ds => lcI turn (.lv f) (ds.length + 1) 0 S
    | none => .bad)
theorem lcRun_I {turn : D → Sto → R (Option D)} {src : Src} {S : Sto} : ∃ k, lcRun turn src S = lcI turn src k 0 S := by
  cases src with
  | st ds => exact ⟨ds.length + 1, by rw [lcS_I _ 0 (by omega) (Nat.zero_le _)]; rfl⟩
  | lv f =>
    cases e : f S with
    | none => exact ⟨0, by show (match f S with | some ds => _ | none => _) = _; rw [e]; rfl⟩
    | some ds => exact ⟨ds.length + 1, by show (match f S with | some ds => _ | none => _) = _; rw [e]⟩
def eLc (vs : List Nat) (mi : EI) (g : Tg) (t : T) (e : E) : E := fun ρ S => (mi ρ S).bind fun src S => match lcRun (lcT g t e (wipeE ρ vs)) src S with
  | .ok ys S' => if fits ys.length = true then .ok (.lst ys) S' else .bad
  | _ => .bad
abbrev W0 : WX := fun _ _ _ _ => False
def CTs (X : Cx) (ifs : List Expr) (t : T) : Prop := ∀ W, Takes X W → PTs X ifs (tTv (wd X) t W)
def tYs : T := fun _ S => .ok true S
theorem cts_nil {X : Cx} : CTs X [] tYs := fun W tk => ⟨fun pins s σ H Q I ⟨G, ρ, S, rs, re, h⟩ => pts_nil.run pins s σ H Q I (Go.ret h rs rfl)⟩
theorem cts_one {X : Cx} {c : Expr} {t : T} (h : CT X c t) : CTs X [c] t := fun W tk => pts_one (h W tk)
/-- a context of a comprehension's block -/
abbrev cxB (X : Cx) (scope : Scope) (s : Shared) (H : Hp) (C : Addr) (cl : List (Str × Addr)) (fp : List Addr) : Cx := X.blk s H scope (compEnvC scope cl C X.env) fp
section
variable {X : Cx} {pos : Pos}
/-- what is left of a comprehension at turn i -/
def Left (U : Wd) (G : Gh) (H1 : Hp) (Q : VK) (r : R (List D)) (done : List D) : Prop := match r with
  | .ok ys S' => fits (done.length + ys.length) = true ∧ ∀ G' v H', Step G H1 G' H' → RelS U G' S' H' → DV U G' H' (.lst (done ++ ys)) v → Q v H'
  | _ => False
theorem lc_reads {U : Wd} {vs sl : List Nat} {mi : EI} {g : Tg} {t : T} {e : E} {W : WX} {σ : L2.St} {H : Hp} {Q : VK} (hsl : ∀ i ∈ sl, i ∈ vs) (h : tEv U (eLc vs mi g t e) W σ H Q) : tLc (tIv U mi W) (tGv U sl g) (tTv U t W0) (tEv U e W0) vs σ H Q := by
  obtain ⟨G, ρ, S, rs, re, h⟩ := h
  refine ⟨G, ρ, S, rs, re, Go.mono (Go.bind (rel := relI U) h) fun J H1 ⟨G1, src, S1, s1, rs1, ri, g1⟩ => ?_⟩
  have re1 := re.mono s1
  intro D hD
  have hleft : Left U G1 H1 Q (lcRun (lcT g t e (wipeE ρ vs)) src S1) [] := by
    unfold Left
    cases er : lcRun (lcT g t e (wipeE ρ vs)) src S1 with
    | ok ys S' =>
      rw [er] at g1
      dsimp only at g1
      by_cases hf : fits ys.length = true
      · rw [if_pos hf] at g1
        exact ⟨by simpa using hf, g1⟩
      · rw [if_neg hf] at g1; exact g1.elim
    | ex x S' => rw [er] at g1; exact g1.elim
    | bad => rw [er] at g1; exact g1.elim
  obtain ⟨k, ek⟩ := lcRun_I (turn := lcT g t e (wipeE ρ vs)) (src := src) (S := S1)
  rw [ek] at hleft
  refine ⟨fun i m H' => ∃ Gi Si acc dacc, Step G1 H1 Gi H' ∧ RelS U Gi Si H' ∧ Gi.hid D ∧ H' D = some (.lst acc) ∧ DVs U Gi H' dacc acc ∧ Left U G1 H1 Q (lcI (lcT g t e (wipeE ρ vs)) src m i Si) dacc,
    ⟨k, G1.hide D, S1, [], [], hide_step rs1 hD, hide_rel rs1 hD rfl, .inr rfl, upd_same, rfl, hleft⟩, ?_⟩
  intro i m H2 ⟨G2, S2, acc, dacc, s2, rs2, hh2, hD2, qa, hl⟩
  cases m with
  | zero => exact hl.elim
  | succ m =>
    unfold lcI at hl
    cases el : look src S2 with
    | none => rw [el] at hl; exact hl.elim
    | some ds =>
      rw [el] at hl
      dsimp only at hl
      obtain ⟨r1, r2⟩ := ri G2 H2 S2 ds s2 rs2 el i
      cases ed : ds[i]? with
      | none =>
        rw [ed] at hl
        refine .inl ⟨r2 ed, ?_⟩
        have hl : fits (dacc.length + 0) = true ∧ ∀ G' v H', Step G1 H1 G' H' → RelS U G' S2 H' → DV U G' H' (.lst (dacc ++ [])) v → Q v H' := hl
        rw [List.append_nil] at hl
        exact hl.2 _ _ _ (back_step s2) (back_rel s2 rs2) (back_lst rs1 hD s2 rs2 hh2 hD2 qa)
      | some d =>
        rw [ed] at hl
        dsimp only at hl
        obtain ⟨go, yl⟩ := r1 d ed
        refine .inr ⟨go, fun H' => ∃ m', m' < m + 1 ∧ ∃ Gi Si acc dacc, Step G1 H1 Gi H' ∧ RelS U Gi Si H' ∧ Gi.hid D ∧ H' D = some (.lst acc) ∧ DVs U Gi H' dacc acc ∧ Left U G1 H1 Q (lcI (lcT g t e (wipeE ρ vs)) src m' (i + 1) Si) dacc, fun H' h => h, fun x H3 hy => ?_⟩
        obtain ⟨G3, s3, rs3, dv⟩ := yl x H3 hy
        have s13 := s2.trans s3
        refine ⟨G3, wipeE ρ vs, S2, d, rs3, (re1.mono s13).wipe vs, dv, ?_⟩
        have hh3 := s3.hid D hh2
        have hD3 := s3.keep D _ hD2 (.inr hh2)
        have qa3 := qa.mono s3
        unfold lcT at hl
        cases eg : g d (wipeE ρ vs) S2 with
        | none => rw [eg] at hl; exact hl.elim
        | some ρ3 =>
          rw [eg] at hl
          dsimp only at hl
          intro σ4 re4 df
          refine ⟨(wipe_diff df hsl).trans wipe_wipe, G3, ρ3, S2, rs3, re4, ?_⟩
          cases et : t ρ3 S2 with
          | bad => rw [et] at hl; exact hl.elim
          | ex x S' => rw [et] at hl; exact hl.elim
          | ok b S4 =>
            rw [et] at hl
            intro G4 b' H4 s4 rs4 eb
            have eb : b = b' := eb
            subst eb
            have s14 := s13.trans s4
            have hh4 := s4.hid D hh3
            have hD4 := s4.keep D _ hD3 (.inr hh3)
            have qa4 := qa3.mono s4
            by_cases hb : b = true
            · rw [if_pos hb]
              have hl : Left U G1 H1 Q (match (e ρ3 S4).bind fun y S => (.ok (some y) S : R (Option Z.D)) with
                | .ok (some y) S' => (match lcI (lcT g t e (wipeE ρ vs)) src m (i + 1) S' with
                  | .ok ys S2 => .ok (y :: ys) S2
                  | _ => .bad)
                | .ok none S' => lcI (lcT g t e (wipeE ρ vs)) src m (i + 1) S'
                | _ => .bad) dacc := by
                have hl' := hl
                unfold R.bind at hl'
                dsimp only at hl'
                rw [if_pos hb] at hl'
                exact hl'
              refine ⟨G4, ρ3, S4, rs4, re4.mono s4, ?_⟩
              cases ee : e ρ3 S4 with
              | bad => rw [ee] at hl; exact hl.elim
              | ex x S' => rw [ee] at hl; exact hl.elim
              | ok y S5 =>
                rw [ee] at hl
                intro G5 v H5 s5 rs5 dy
                have s15 := s14.trans s5
                have hh5 := s5.hid D hh4
                have hD5 := s5.keep D _ hD4 (.inr hh4)
                have qa5 := qa4.mono s5
                have hl : Left U G1 H1 Q (match lcI (lcT g t e (wipeE ρ vs)) src m (i + 1) S5 with
                  | .ok ys S2 => .ok (y :: ys) S2
                  | _ => .bad) dacc := hl
                cases er : lcI (lcT g t e (wipeE ρ vs)) src m (i + 1) S5 with
                | bad => rw [er] at hl; exact hl.elim
                | ex x S' => rw [er] at hl; exact hl.elim
                | ok ys S6 =>
                  rw [er] at hl
                  have hl : fits (dacc.length + (y :: ys).length) = true ∧ ∀ G' v H', Step G1 H1 G' H' → RelS U G' S6 H' → DV U G' H' (.lst (dacc ++ y :: ys)) v → Q v H' := hl
                  refine ⟨acc, hD5, ?_, m, Nat.lt_succ_self m, G5, S5, acc ++ [v], dacc ++ [y], step_free s15 hD, hid_rel rs5 hh5 rfl, hh5, upd_same, (qa5.append (show DVs U G5 H5 [y] [v] from ⟨v, [], rfl, dy, rfl⟩)).kp (hid_keep hh5), ?_⟩
                  · have := fits_le hl.1
                    rw [qa5.length]
                    rw [List.length_cons] at this
                    omega
                  · rw [er]
                    refine ⟨?_, ?_⟩
                    · have := hl.1
                      rw [List.length_cons] at this
                      rw [List.length_append, List.length_singleton]
                      rw [show dacc.length + 1 + ys.length = dacc.length + (ys.length + 1) from by omega]
                      exact this
                    · rw [List.append_assoc]; exact hl.2
            · rw [if_neg hb]
              have hl : Left U G1 H1 Q (lcI (lcT g t e (wipeE ρ vs)) src m (i + 1) S4) dacc := by
                have hl' := hl
                unfold R.bind at hl'
                dsimp only at hl'
                rw [if_neg hb] at hl'
                exact hl'
              exact ⟨m, Nat.lt_succ_self m, G4, S4, acc, dacc, s14, rs4, hh4, hD4, qa4, hl⟩
theorem ce_lc {elt tg iter : Expr} {ifs : List Expr} {scope : Scope} (own : List (Str × Nat)) {sl : List Nat} {mi : EI} {g : Tg} {t : T} {e : E} (hc : X.calm = true) (hN : X.N.Nodup) (hi : CI X tg iter mi) (ok : BlkOk X.N X.env.scope scope own) (hsl : ∀ i ∈ sl, i ∈ own.map (·.2))
    (hg : ∀ s H C cl fp, CG (cxB X scope s H C cl fp) tg sl g) (ht : ∀ s H C cl fp, CTs (cxB X scope s H C cl fp) ifs t) (he : ∀ s H C cl fp, CE (cxB X scope s H C cl fp) elt e) (hs : ∀ x, foldedSetIterable iter X.env x = pure x := by intro _; rfl) :
    CE X (.ListComp elt [⟨tg, iter, ifs, 0⟩] scope pos) (eLc (own.map (·.2)) mi g t e) := fun W tk =>
  PE.imp (pe_lc (g := tGv (wd X) sl g) (tt := tTv (wd X) t W0) (te := tEv (wd X) e W0) hc hN (hi W tk) ok (fun s H C cl fp => hg s H C cl fp) (fun s H C cl fp => ht s H C cl fp W0 takes0) (fun s H C cl fp => he s H C cl fp W0 takes0) hs) fun σ H Q h => lc_reads hsl h
theorem cs_setLc (i : Nat) {y : Str} {py : Pos} {elt tg iter : Expr} {ifs : List Expr} {scope : Scope} {spos : Pos} (own : List (Str × Nat)) {sl : List Nat} {mi : EI} {g : Tg} {t : T} {e : E} (hc : X.calm = true) (hN : X.N.Nodup) (hi : CI X tg iter mi) (ok : BlkOk X.N X.env.scope scope own) (hsl : ∀ i ∈ sl, i ∈ own.map (·.2))
    (hg : ∀ s H C cl fp, CG (cxB X scope s H C cl fp) tg sl g) (ht : ∀ s H C cl fp, CTs (cxB X scope s H C cl fp) ifs t) (he : ∀ s H C cl fp, CE (cxB X scope s H C cl fp) elt e) (hsw : swapsWith (.ListComp elt [⟨tg, iter, ifs, 0⟩] scope pos) (some (.Name y py)) spos.line X.env = pure true := by rfl) (hy : X.N[i]? = some y := by rfl) (hyl : X.env.scope.names.lookup y = some .local := by rfl) (hs : ∀ x, foldedSetIterable iter X.env x = pure x := by intro _; rfl) :
    CS X (.Assign [.Name y py] (.ListComp elt [⟨tg, iter, ifs, 0⟩] scope pos) spos) (sSet i (eLc (own.map (·.2)) mi g t e)) := fun W tk =>
  PS.imp (ps_setLc (g := tGv (wd X) sl g) (tt := tTv (wd X) t W0) (te := tEv (wd X) e W0) hc hN hy hyl hsw (hi W tk) ok (fun s H C cl fp => hg s H C cl fp) (fun s H C cl fp => ht s H C cl fp W0 takes0) (fun s H C cl fp => he s H C cl fp W0 takes0) hs) fun D σ H ⟨G, ρ, S, rs, re, h⟩ => by
    obtain ⟨G0, ρ0, S0, a, b, c⟩ := tEv.toS rs re h
    exact lc_reads hsl ⟨G0, ρ0, S0, a, b, Go.mono c fun v H1 ⟨G1, d, S1, s, rs1, re1, dv, g⟩ => GoS.nx_ g rs1 (re1.set i dv)⟩
end
end Z

/-! Z14: built-in functions. -/
namespace Z
open PySem PySem.Spec PyProof PyProof.Rows L2
section
variable {X : Cx} {pos : Pos} {k : Nat}
theorem one_of {U : Wd} {G : Gh} {H : Hp} {d : D} {vs : List V} (q : DVs U G H [d] vs) : ∃ v, vs = [v] ∧ DV U G H d v := by
  obtain ⟨v, r, e, h1, h2⟩ := q
  have h2 : r = [] := h2
  subst h2
  exact ⟨v, e, h1⟩
theorem two_of {U : Wd} {G : Gh} {H : Hp} {d e : D} {vs : List V} (q : DVs U G H [d, e] vs) : ∃ v w, vs = [v, w] ∧ DV U G H d v ∧ DV U G H e w := by
  obtain ⟨v, r, e1, h1, w, r2, e2, h2, h3⟩ := q
  have h3 : r2 = [] := h3
  subst h3 e2
  exact ⟨v, w, e1, h1, h2⟩
def oLen : Fn := fun ds S => match ds with
  | [d] => (match rd S d with
    | .tup es => .ok (.int es.length) S
    | .lst es => .ok (.int es.length) S
    | .str l => if fits l.length = true then .ok (.int l.length) S else .bad
    | .dct ks _ => .ok (.int ks.length) S
    | _ => .bad)
  | _ => .bad
theorem cb_len : CB X (.builtin "len") oLen := fun W σ => CallR.imp (CallR.or call_len call_lenD) fun xs H Q ⟨G, S, ds, rs, q, g⟩ => by
  unfold oLen at g
  split at g
  · obtain ⟨v, rfl, dv⟩ := one_of q
    split at g
    · rename_i es e
      obtain ⟨p, vs, rfl, t, q⟩ := rd_tup e dv
      exact .inl ⟨_, _, rfl, .inr ⟨vs, t, rfl⟩, by rw [q.length]; exact Go.ret g rs rfl⟩
    · rename_i es e
      obtain ⟨p, vs, rfl, t, q⟩ := rd_lst rs e dv
      exact .inl ⟨_, _, rfl, .inl ⟨vs, t, rfl⟩, by rw [q.length]; exact Go.ret g rs rfl⟩
    · rename_i l e
      split at g
      · rename_i hf
        have dv := rd_atom e rfl dv
        have dv : v = _ := dv
        subst dv
        exact .inl ⟨_, l.length, rfl, ⟨by simpa [Str.length] using fits_le hf, by simp [Str.length]⟩, Go.ret g rs rfl⟩
      · exact g.elim
    · rename_i ks zs e
      obtain ⟨p, kvs, rfl, hH, h1, h2⟩ := rd_dct rs e dv
      have hl : kvs.length = ks.length := by have := congrArg List.length h1; simpa using this.symm
      exact .inr ⟨p, kvs, rfl, hH, by rw [hl]; exact Go.ret g rs rfl⟩
    · exact g.elim
  · exact g.elim
def oAbs : Fn := fun ds S => match ds with
  | [.int i] => .ok (.int (if i < 0 then -i else i)) S
  | _ => .bad
theorem cb_abs : CB X (.builtin "abs") oAbs := fun W σ => CallR.imp call_abs fun xs H Q ⟨G, S, ds, rs, q, g⟩ => by
  unfold oAbs at g
  split at g
  · rename_i i
    obtain ⟨v, rfl, dv⟩ := one_of q
    have dv : v = _ := dv
    subst dv
    exact ⟨i, rfl, Go.ret g rs rfl⟩
  · exact g.elim
def oInt : Fn := fun ds S => match ds with
  | [.int i] => .ok (.int i) S
  | [.bl b] => .ok (.int (if b then 1 else 0)) S
  | _ => .bad
theorem cb_int : CB X (.type "int") oInt := fun W σ => CallR.imp call_int1 fun xs H Q ⟨G, S, ds, rs, q, g⟩ => by
  unfold oInt at g
  split at g
  · rename_i i
    obtain ⟨v, rfl, dv⟩ := one_of q
    have dv : v = _ := dv
    subst dv
    exact .inl ⟨i, rfl, Go.ret g rs rfl⟩
  · rename_i b
    obtain ⟨v, rfl, dv⟩ := one_of q
    have dv : v = _ := dv
    subst dv
    exact .inr ⟨b, rfl, Go.ret g rs rfl⟩
  · exact g.elim
def oMin : Fn := fun ds S => match ds with
  | [.int i, .int j] => .ok (.int (if j < i then j else i)) S
  | _ => .bad
theorem cb_min (hc : X.calm = true) : CB X (.builtin "min") oMin := fun W σ => CallR.imp (call_min2 hc) fun xs H Q ⟨G, S, ds, rs, q, g⟩ => by
  unfold oMin at g
  split at g
  · rename_i i j
    obtain ⟨v, w, rfl, dv, dw⟩ := two_of q
    have dv : v = _ := dv
    have dw : w = _ := dw
    subst dv dw
    exact ⟨i, j, rfl, Go.ret g rs rfl⟩
  · exact g.elim
def oMax : Fn := fun ds S => match ds with
  | [.int i, .int j] => .ok (.int (if j > i then j else i)) S
  | _ => .bad
theorem cb_max (hc : X.calm = true) : CB X (.builtin "max") oMax := fun W σ => CallR.imp (call_max2 hc) fun xs H Q ⟨G, S, ds, rs, q, g⟩ => by
  unfold oMax at g
  split at g
  · rename_i i j
    obtain ⟨v, w, rfl, dv, dw⟩ := two_of q
    have dv : v = _ := dv
    have dw : w = _ := dw
    subst dv dw
    exact ⟨i, j, rfl, Go.ret g rs rfl⟩
  · exact g.elim
/-- tuple(..) of a list or a tuple -/
def oTuple : Fn := fun ds S => match ds with
  | [d] => (match rd S d with
    | .tup es => .ok (.tup es) S
    | .lst es => .ok (.tup es) S
    | _ => .bad)
  | _ => .bad
theorem rd_tup_id {S : Sto} {d : D} {es : List D} (e : rd S d = .tup es) : d = .tup es := by
  cases d with
  | ref n =>
    unfold rd at e
    dsimp only at e
    cases z : S.get n with
    | none => rw [z] at e; cases e
    | some o => rw [z] at e; cases o <;> cases e
  | _ => exact e
theorem cb_tuple : CB X (.type "tuple") oTuple := fun W σ => CallR.imp call_tuple_of fun xs H Q ⟨G, S, ds, rs, q, g⟩ => by
  unfold oTuple at g
  split at g
  · obtain ⟨v, rfl, dv⟩ := one_of q
    split at g
    · rename_i es e
      have e2 := rd_tup_id e
      obtain ⟨p, vs, rfl, t, q⟩ := rd_tup e dv
      exact ⟨p, vs, rfl, .inr ⟨t, Go.ret g rs (by rw [← e2]; exact dv)⟩⟩
    · rename_i es e
      obtain ⟨p, vs, rfl, t, q⟩ := rd_lst rs e dv
      exact ⟨p, vs, rfl, .inl ⟨t, fun l hl => Go.new g rs hl (new_tup rs hl q)⟩⟩
    · exact g.elim
  · exact g.elim
/-- list(..), not to be changed -/
def oList : Fn := fun ds S => match ds with
  | [d] => (match rd S d with
    | .tup es => .ok (.lst es) S
    | .lst es => .ok (.lst es) S
    | _ => .bad)
  | _ => .bad
theorem cb_list : CB X (.type "list") oList := fun W σ => CallR.imp call_list_of fun xs H Q ⟨G, S, ds, rs, q, g⟩ => by
  unfold oList at g
  split at g
  · obtain ⟨v, rfl, dv⟩ := one_of q
    split at g
    · rename_i es e
      obtain ⟨p, vs, rfl, t, q⟩ := rd_tup e dv
      exact ⟨p, vs, rfl, .inr t, fun l hl => Go.new g rs hl (new_lst rs hl q)⟩
    · rename_i es e
      obtain ⟨p, vs, rfl, t, q⟩ := rd_lst rs e dv
      exact ⟨p, vs, rfl, .inl t, fun l hl => Go.new g rs hl (new_lst rs hl q)⟩
    · exact g.elim
  · exact g.elim
def blsOf : List D → Option (List Bool)
  | [] => some []
  | .bl b :: ds => (match blsOf ds with
    | some bs => some (b :: bs)
    | none => none)
  | _ :: _ => none
theorem blsOf_vs {U : Wd} {G : Gh} {H : Hp} : ∀ {ds : List D} {bs : List Bool} {vs : List V}, blsOf ds = some bs → DVs U G H ds vs → vs = bs.map V.bl
  | [], bs, vs, h, q => by cases h; exact q
  | d :: ds, bs, vs, h, ⟨v, r, e, h1, h2⟩ => by
    subst e
    cases d with
    | bl b =>
      unfold blsOf at h
      cases z : blsOf ds with
      | none => rw [z] at h; cases h
      | some cs =>
        rw [z] at h; cases h
        have h1 : v = .bl b := h1
        rw [h1, blsOf_vs z h2]; rfl
    | _ => cases h
def oAll : Fn := fun ds S => match ds with
  | [d] => (match rd S d with
    | .lst es => (match blsOf es with
      | some bs => .ok (.bl (bs.all id)) S
      | none => .bad)
    | _ => .bad)
  | _ => .bad
def oAny : Fn := fun ds S => match ds with
  | [d] => (match rd S d with
    | .lst es => (match blsOf es with
      | some bs => .ok (.bl (bs.any id)) S
      | none => .bad)
    | _ => .bad)
  | _ => .bad
theorem cb_all (hc : X.calm = true) : CB X (.builtin "all") oAll := fun W σ => CallR.imp (cr_all hc) fun xs H Q ⟨G, S, ds, rs, q, g⟩ => by
  unfold oAll at g
  split at g
  · obtain ⟨v, rfl, dv⟩ := one_of q
    split at g
    · rename_i es e
      split at g
      · rename_i bs hb
        obtain ⟨p, vs, rfl, t, q⟩ := rd_lst rs e dv
        have := blsOf_vs hb q
        subst this
        exact ⟨p, bs, rfl, t, Go.ret g rs rfl⟩
      · exact g.elim
    · exact g.elim
  · exact g.elim
theorem cb_any (hc : X.calm = true) : CB X (.builtin "any") oAny := fun W σ => CallR.imp (cr_any hc) fun xs H Q ⟨G, S, ds, rs, q, g⟩ => by
  unfold oAny at g
  split at g
  · obtain ⟨v, rfl, dv⟩ := one_of q
    split at g
    · rename_i es e
      split at g
      · rename_i bs hb
        obtain ⟨p, vs, rfl, t, q⟩ := rd_lst rs e dv
        have := blsOf_vs hb q
        subst this
        exact ⟨p, bs, rfl, t, Go.ret g rs rfl⟩
      · exact g.elim
    · exact g.elim
  · exact g.elim
/-! all, any of tuples of truths come by tuple's own walk: later -/

/-! ### isinstance -/
inductive Tyn where
  | int | bool | str | tuple | list
def Tyn.nm : Tyn → String
  | .int => "int" | .bool => "bool" | .str => "str" | .tuple => "tuple" | .list => "list"
def tyB (t : Tyn) : D → Option Bool
  | .non => some false
  | .bl _ => some (match t with | .int => true | .bool => true | _ => false)
  | .int _ => some (match t with | .int => true | _ => false)
  | .str _ => some (match t with | .str => true | _ => false)
  | .tup _ => some (match t with | .tuple => true | _ => false)
  | .lst _ => some (match t with | .list => true | _ => false)
  | .dct _ _ => some false
  | _ => none
def tyNm : D → String
  | .non => "NoneType" | .bl _ => "bool" | .int _ => "int" | .str _ => "str" | .tup _ => "tuple" | .lst _ => "list" | _ => "dict"
theorem kit_B {t : Tyn} {d : D} {b : Bool} (h : tyB t d = some b) : kitB (tyNm d) t.nm = some b := by
  cases d <;> cases t <;> simp only [tyB, Option.some.injEq] at h <;> first | (subst h; simp only [tyNm, Tyn.nm]; decide +kernel) | cases h
theorem tyx_seq {K : PySem.W.Frag} {H : Hp} {p : Addr} {vs : List V} (t : SqT K H p vs) : TyX K H (.ref p) (.type "tuple") := by
  rcases t with (e | ⟨o, e⟩) | ⟨o, its, n, e, c, _⟩
  · exact .base (.tup e)
  · exact .fTuple e
  · exact .kTuple e c
theorem tyx_lst {K : PySem.W.Frag} {H : Hp} {p : Addr} {vs : List V} (t : SqL K H p vs) : TyX K H (.ref p) (.type "list") := by
  rcases t with (e | ⟨o, e⟩) | ⟨o, its, n, e, c, _⟩
  · exact .base (.lst e)
  · exact .base (.frz e)
  · exact .kList e c
theorem tyx_of {U : Wd} {G : Gh} {S : Sto} {H : Hp} {d : D} {v : V} {t : Tyn} {b : Bool} (rs : RelS U G S H) (q : DV U G H d v) (h : tyB t (rd S d) = some b) : TyX U.K H v (.type (tyNm (rd S d))) := by
  cases e : rd S d with
  | non => have q := rd_atom e rfl q; have q : v = _ := q; subst q; exact .base .non
  | bl c => have q := rd_atom e rfl q; have q : v = _ := q; subst q; exact .base (.bl _)
  | int i => have q := rd_atom e rfl q; have q : v = _ := q; subst q; exact .base (.int _)
  | str s => have q := rd_atom e rfl q; have q : v = _ := q; subst q; exact .base (.str _)
  | tup ds => obtain ⟨p, vs, rfl, t, _⟩ := rd_tup e q; exact tyx_seq t
  | lst ds => obtain ⟨p, vs, rfl, t, _⟩ := rd_lst rs e q; exact tyx_lst t
  | dct ks zs => obtain ⟨p, kvs, rfl, hH, _⟩ := rd_dct rs e q; exact .base (.dK hH)
  | dcn ks zs => rw [e] at h; simp [tyB] at h
  | ref n => rw [e] at h; simp [tyB] at h
  | arg ns => rw [e] at h; simp [tyB] at h
def eIsi (t : Tyn) (m : E) : E := fun ρ S => (m ρ S).bind fun d S => match tyB t (rd S d) with
  | some b => .ok (.bl b) S
  | none => .bad
theorem ce_isi (t : Tyn) {x tn : Str} {p p2 : Pos} {e : Expr} {m : E} (hg : Gl X x) (hm : X.mg x = none) (he : CE X e m) (hgt : Gl X tn) (hmt : X.mg tn = none) (hx : x = "isinstance" := by rfl) (htn : bootBuiltins tn = some (.type t.nm) := by decide +kernel) (hn : tn ≠ "__name__" := by decide) (hd : (tn == ("__debug__" : Str)) = false := by decide)
    (h1 : starEach [e, .Name tn p2] X.env = (false, eval e X.env) :: starEach [.Name tn p2] X.env := by rfl) (h2 : starEach [.Name tn p2] X.env = (false, eval (.Name tn p2) X.env) :: starEach [] X.env := by rfl) (hpl : (backTo pos (starEach [.Name tn p2] X.env)).any (·.1) = false := by rfl) :
    CE X (.Call (.Name x p) [e, .Name tn p2] [] pos) (eIsi t m) := fun W tk => by
  subst hx
  refine PE.imp (pe_callB call_isi hg hm PyProof.Rows.boot_isinstance (pa_cons (he W tk) (pa_cons (pe_bltn (v := .ty t.nm) hgt hmt htn rfl hn hd) pa_nil h2) h1) (by decide) (by decide) h1 hpl) fun σ H Q ⟨G, ρ, S, rs, re, h⟩ => ?_
  obtain ⟨G0, ρ0, S0, a, b, c⟩ := tEv.bind rs re h
  refine ⟨G0, ρ0, S0, a, b, Go.mono c fun v H1 ⟨G1, d, S1, s, rs1, re1, dv, g⟩ => ?_⟩
  cases e : tyB t (rd S1 d) with
  | none => rw [e] at g; exact g.elim
  | some b => rw [e] at g; exact ⟨v, .ty t.nm, _, _, b, rfl, .ty _, tyx_of rs1 dv e, kit_ty (kit_B e), Go.ret g rs1 rfl⟩
end
end Z

/-! Z15: repr, sorted texts, dicts made. -/
namespace Z
open PySem PySem.Spec PyProof PyProof.Rows L2
/-! ### texts in order -/
def insS (x : List Nat) : List (List Nat) → List (List Nat)
  | [] => [x]
  | y :: ys => if ltCps y x = true then y :: insS x ys else x :: y :: ys
def srtS : List (List Nat) → List (List Nat)
  | [] => []
  | x :: xs => insS x (srtS xs)
theorem ltCps_irr : ∀ a : List Nat, ltCps a a = false
  | [] => rfl
  | x :: xs => by simp [ltCps, ltCps_irr xs]
theorem ltCps_asym : ∀ a b : List Nat, ltCps a b = true → ltCps b a = false
  | [], [], h => by cases h
  | [], _ :: _, _ => rfl
  | _ :: _, [], h => by cases h
  | x :: xs, y :: ys, h => by
    simp only [ltCps, Bool.or_eq_true, decide_eq_true_eq, Bool.and_eq_true, beq_iff_eq] at h
    simp only [ltCps, Bool.or_eq_false_iff, decide_eq_false_iff_not, Bool.and_eq_false_iff, beq_eq_false_iff_ne]
    rcases h with h | ⟨h1, h2⟩
    · exact ⟨by omega, .inl (by omega)⟩
    · exact ⟨by omega, .inr (ltCps_asym xs ys h2)⟩
theorem ltCps_tri : ∀ a b : List Nat, ltCps a b = false → ltCps b a = false → a = b
  | [], [], _, _ => rfl
  | [], _ :: _, h, _ => by cases h
  | _ :: _, [], _, h => by cases h
  | x :: xs, y :: ys, h, k => by
    simp only [ltCps, Bool.or_eq_false_iff, decide_eq_false_iff_not, Bool.and_eq_false_iff, beq_eq_false_iff_ne] at h k
    have e : x = y := by omega
    subst e
    rw [ltCps_tri xs ys (h.2.resolve_left fun z => z rfl) (k.2.resolve_left fun z => z rfl)]
theorem ltCps_tr : ∀ a b c : List Nat, ltCps b a = false → ltCps c b = false → ltCps c a = false
  | [], [], [], _, _ => rfl
  | [], [], _ :: _, _, h => h
  | [], _ :: _, [], _, h => by cases h
  | [], _ :: _, _ :: _, h, _ => by rfl
  | _ :: _, [], [], h, _ => by cases h
  | _ :: _, [], _ :: _, h, _ => by cases h
  | _ :: _, _ :: _, [], _, h => by cases h
  | x :: xs, y :: ys, z :: zs, h, k => by
    simp only [ltCps, Bool.or_eq_false_iff, decide_eq_false_iff_not, Bool.and_eq_false_iff, beq_eq_false_iff_ne] at h k ⊢
    refine ⟨by omega, ?_⟩
    by_cases e : z = x
    · subst e
      have e2 : y = z := by omega
      subst e2
      exact .inr (ltCps_tr xs ys zs (h.2.resolve_left fun z => z rfl) (k.2.resolve_left fun z => z rfl))
    · exact .inl e
abbrev SoS (l : List (List Nat)) : Prop := l.Pairwise fun a b => ltCps b a = false
theorem insS_perm (x : List Nat) : ∀ l, (insS x l).Perm (x :: l)
  | [] => List.Perm.refl _
  | y :: ys => by
    unfold insS
    split
    · exact ((insS_perm x ys).cons y).trans (List.Perm.swap x y ys)
    · exact List.Perm.refl _
theorem insS_so (x : List Nat) : ∀ {l}, SoS l → SoS (insS x l)
  | [], _ => List.pairwise_singleton _ _
  | y :: ys, h => by
    unfold insS
    obtain ⟨h1, h2⟩ := List.pairwise_cons.mp h
    split
    · rename_i hl
      refine List.pairwise_cons.mpr ⟨fun z hz => ?_, insS_so x h2⟩
      rcases List.mem_cons.mp ((insS_perm x ys).mem_iff.mp hz) with e | hz
      · subst e; exact ltCps_asym _ _ hl
      · exact h1 z hz
    · rename_i hl
      have hl : ltCps y x = false := by simpa using hl
      refine List.pairwise_cons.mpr ⟨fun z hz => ?_, h⟩
      rcases List.mem_cons.mp hz with e | hz
      · subst e; exact hl
      · exact ltCps_tr _ _ _ hl (h1 z hz)
theorem srtS_perm : ∀ l, (srtS l).Perm l
  | [] => List.Perm.refl _
  | x :: xs => (insS_perm x _).trans ((srtS_perm xs).cons x)
theorem srtS_so : ∀ l, SoS (srtS l)
  | [] => List.Pairwise.nil
  | x :: xs => insS_so x (srtS_so xs)
theorem sorted_uniq {l m : List (List Nat)} (p : l.Perm m) (h : SoS l) (k : SoS m) : l = m := p.eq_of_pairwise (fun a b _ _ h1 h2 => ltCps_tri a b h2 h1) h k
def ofS (s : Str) : List Nat := s.cps.toList
theorem sortedS_so : ∀ {l : List Str}, sortedS l = true → SoS (l.map ofS)
  | [], _ => List.Pairwise.nil
  | x :: r, h => by
    have go : ∀ (r : List Str) (x : Str), risingS x r = true → SoS ((x :: r).map ofS) := by
      intro r
      induction r with
      | nil => intro x _; exact List.pairwise_singleton _ _
      | cons y r ih =>
        intro x h
        have h : (!ltCps y.cps.toList x.cps.toList && risingS y r) = true := h
        obtain ⟨h1, h2⟩ := Bool.and_eq_true_iff.mp h
        have h1 : ltCps (ofS y) (ofS x) = false := by simpa [ofS] using h1
        have q := ih y h2
        refine List.pairwise_cons.mpr ⟨fun z hz => ?_, q⟩
        obtain ⟨q1, _⟩ := List.pairwise_cons.mp q
        have hz : z = ofS y ∨ z ∈ r.map ofS := by simpa using hz
        rcases hz with e | hz
        · subst e; exact h1
        · exact ltCps_tr _ _ _ h1 (q1 z hz)
    exact go r x h
def strsOf : List D → Option (List (List Nat))
  | [] => some []
  | .str s :: ds => (match strsOf ds with
    | some bs => some (s :: bs)
    | none => none)
  | _ :: _ => none
def toS (l : List Nat) : Str := ⟨l.toArray⟩
theorem strsOf_keys : ∀ {ks : List D} {ls : List (List Nat)}, strsOf ks = some ls → ks.map keyOf = ls.map fun l => some (Sum.inr (toS l))
  | [], ls, h => by cases h; rfl
  | d :: ds, ls, h => by
    cases d with
    | str s =>
      unfold strsOf at h
      cases z : strsOf ds with
      | none => rw [z] at h; cases h
      | some bs => rw [z] at h; cases h; rw [List.map_cons, List.map_cons, strsOf_keys z]; rfl
    | _ => cases h
theorem map_ofS : ∀ ls : List (List Nat), (ls.map toS).map ofS = ls
  | [] => rfl
  | l :: ls => by rw [List.map_cons, List.map_cons, map_ofS ls]; simp [ofS, toS]
theorem map_toS : ∀ ls : List Str, (ls.map ofS).map toS = ls
  | [] => rfl
  | l :: ls => by rw [List.map_cons, List.map_cons, map_toS ls]; simp [ofS, toS]
theorem strs_vs {U : Wd} {G : Gh} {H : Hp} : ∀ {ls : List (List Nat)}, DVs U G H (ls.map .str) ((ls.map toS).map V.str)
  | [] => rfl
  | _ :: _ => ⟨_, _, rfl, rfl, strs_vs⟩
/-- sorted(a dict of texts) -/
def oSortDS : Fn := fun ds S => match ds with
  | [d] => (match rd S d with
    | .dct ks _ => (match strsOf ks with
      | some ls => if ls.length < 64 then .ok (.lst ((srtS ls).map .str)) S else .bad
      | none => .bad)
    | _ => .bad)
  | _ => .bad
section
variable {X : Cx} {pos : Pos} {k : Nat}
theorem cb_sortDS (hc : X.calm = true) : CB X (.builtin "sorted") oSortDS := fun W σ => CallR.imp (call_sortedD hc) fun xs H Q ⟨G, S, ds, rs, q, g⟩ => by
  unfold oSortDS at g
  split at g
  · obtain ⟨v, rfl, dv⟩ := one_of q
    split at g
    · rename_i ks zs e
      split at g
      · rename_i ls hl
        split at g
        · rename_i h64
          obtain ⟨p, kvs, rfl, hH, h1, h2⟩ := rd_dct rs e dv
          rw [strsOf_keys hl] at h1
          have e1 : kvs.map (·.1) = (ls.map toS).map Sum.inr := by
            have z : ∀ {ls : List (List Nat)} {kvs : List (Key × V)}, (ls.map fun l => some (Sum.inr (toS l) : Key)) = kvs.map (fun p => some p.1) → kvs.map (·.1) = (ls.map toS).map Sum.inr := by
              intro ls
              induction ls with
              | nil => intro kvs h; cases kvs with
                | nil => rfl
                | cons _ _ => simp at h
              | cons l ls ih => intro kvs h; cases kvs with
                | nil => simp at h
                | cons p r =>
                  simp only [List.map_cons, List.cons.injEq, Option.some.injEq] at h
                  rw [List.map_cons, List.map_cons, List.map_cons, ih h.2, ← h.1]
            exact z h1
          refine ⟨p, kvs, ls.map toS, rfl, .inl hH, e1, by rw [List.length_map]; exact h64, fun ys l hp hs hl => ?_⟩
          have e2 : ys.map ofS = srtS ls := by
            refine sorted_uniq ?_ (sortedS_so hs) (srtS_so ls)
            have := hp.map ofS
            rw [map_ofS] at this
            exact this.trans (srtS_perm ls).symm
          have e3 : ys = (srtS ls).map toS := by rw [← e2, map_toS]
          rw [e3]
          exact Go.new g rs hl (new_lst rs hl strs_vs)
        · exact g.elim
      · exact g.elim
    · exact g.elim
  · exact g.elim
end
/-! ### repr -/
mutual
/-- no longer than that -/
def wt : D → Nat
  | .non => 4
  | .bl _ => 5
  | .int i => if i.natAbs < 1000000000000000000 then 19 else 20000000
  | .str s => 10 * s.length + 2
  | .tup ds => wts ds + 5
  | .lst ds => wts ds + 5
  | _ => 0
def wts : List D → Nat
  | [] => 0
  | d :: ds => wt d + 2 + wts ds
end
theorem textFrom_le : ∀ (ts : List Str) (k : Nat) (acc : Str), (textFrom k acc ts).length ≤ acc.length + piled ts
  | [], k, acc => by show acc.length ≤ acc.length + 0; omega
  | t :: ts, k, acc => by
    have h := textFrom_le ts (k + 1) (acc ++ ((if k > 0 then ", " else "" : String) : Str) ++ t)
    have e : (((if k > 0 then ", " else "" : String) : Str)).length ≤ 2 := by
      by_cases hk : k > 0
      · rw [if_pos hk]; decide
      · rw [if_neg hk]; decide
    rw [Str.length_append, Str.length_append] at h
    rw [piled_cons]
    show (textFrom (k + 1) _ ts).length ≤ _
    omega
theorem listText_le (ts : List Str) : (listText ts).length ≤ piled ts + 2 := by
  unfold listText
  rw [Str.length_append]
  have h := textFrom_le ts 0 "["
  have e1 : (("[" : String) : Str).length = 1 := by decide
  have e2 : (("]" : String) : Str).length = 1 := by decide
  rw [e1] at h
  rw [e2]
  omega
theorem tupleText_le (ts : List Str) : (tupleText ts).length ≤ piled ts + 3 := by
  unfold tupleText
  rw [Str.length_append, Str.length_append]
  have e1 : (("(" : String) : Str).length = 1 := by decide
  have e2 : (((if ts.length == 1 then ",)" else ")" : String)) : Str).length ≤ 2 := by
    split <;> decide
  have e3 : (Str.join ", " ts).length ≤ piled ts := by
    cases ts with
    | nil => show (Str.join ", " []).length ≤ 0; decide
    | cons a r => have := join_length_add (a :: r) (by simp); omega
  rw [e1]
  omega
mutual
theorem shown_le : ∀ (d : D) (n : Nat), shp n d = true → wt d ≤ 16777216 → (toPy d).shown.length ≤ wt d ∧ (toPy d).showable = true
  | .non, n, h, _ => ⟨by show (("None" : String) : Str).length ≤ 4; decide, rfl⟩
  | .bl true, n, h, _ => ⟨by show (("True" : String) : Str).length ≤ 5; decide, rfl⟩
  | .bl false, n, h, _ => ⟨by show (("False" : String) : Str).length ≤ 5; decide, rfl⟩
  | .int i, n, h, hw => by
    simp only [wt] at hw ⊢
    by_cases hi : i.natAbs < 1000000000000000000
    · rw [if_pos hi]
      refine ⟨?_, ?_⟩
      · show (Str.ofString (toString i)).length ≤ 19
        rw [PySem.ofString_length]
        exact int_text_length_le10 (k := 18) (by decide) (by simpa using hi)
      · show decide (i.natAbs.log2 < 1920) = true
        refine decide_eq_true ?_
        rcases Nat.eq_zero_or_pos i.natAbs with z | z
        · rw [z]; decide
        · have := (Nat.log2_lt (n := i.natAbs) (k := 60) (by omega)).mpr (Nat.lt_trans hi (by decide))
          omega
    · rw [if_neg hi] at hw; omega
  | .str s, n, h, _ => ⟨by
      have h : (s.all fun c => Nat.blt c 0x110000) = true := by simpa [shp] using h
      have e := StrLaws.reprText_len (⟨s.toArray⟩ : Str) (fun c hc => by
        rw [List.all_eq_true] at h
        have hc : c ∈ s := by simpa using hc
        have := Nat.le_of_ble_eq_true (h c hc)
        omega)
      simpa [toPy, PyData.shown, wt, Str.length] using e, rfl⟩
  | .tup ds, n, h, hw => by
    have h : shps n ds = true := by simpa [shp] using h
    simp only [wt] at hw ⊢
    obtain ⟨a, b⟩ := showns_le ds n h (by omega)
    refine ⟨?_, b⟩
    show (tupleText (PyData.shownAll (toPys ds))).length ≤ _
    have := tupleText_le (PyData.shownAll (toPys ds))
    omega
  | .lst ds, n, h, hw => by
    have h : shps n ds = true := by simpa [shp] using h
    simp only [wt] at hw ⊢
    obtain ⟨a, b⟩ := showns_le ds n h (by omega)
    refine ⟨?_, b⟩
    show (listText (PyData.shownAll (toPys ds))).length ≤ _
    have := listText_le (PyData.shownAll (toPys ds))
    omega
  | .dct _ _, n, h, _ => by simp [shp] at h
  | .dcn _ _, n, h, _ => by simp [shp] at h
  | .ref _, n, h, _ => by simp [shp] at h
  | .arg _, n, h, _ => by simp [shp] at h
theorem showns_le : ∀ (ds : List D) (n : Nat), shps n ds = true → wts ds ≤ 16777216 → piled (PyData.shownAll (toPys ds)) ≤ wts ds ∧ PyData.showableAll (toPys ds) = true
  | [], n, h, _ => ⟨Nat.le_refl _, rfl⟩
  | d :: ds, 0, h, _ => by simp [shps] at h
  | d :: ds, n + 1, h, hw => by
    have h : (shp n d && shps (n + 1) ds) = true := by simpa [shps] using h
    obtain ⟨h1, h2⟩ := Bool.and_eq_true_iff.mp h
    simp only [wts] at hw ⊢
    obtain ⟨a1, b1⟩ := shown_le d n h1 (by omega)
    obtain ⟨a2, b2⟩ := showns_le ds (n + 1) h2 (by omega)
    refine ⟨?_, ?_⟩
    · show piled ((toPy d).shown :: PyData.shownAll (toPys ds)) ≤ _
      rw [piled_cons]; omega
    · show (PyData.showable (toPy d) && PyData.showableAll (toPys ds)) = true
      rw [b1, b2]; rfl
end
/-- what repr writes (never worked out here) -/
def repL (d : D) : List Nat := (toPy d).shown.cps.toList
def oRepr : Fn := fun ds S => match ds with
  | [d] => if shp 60 (rd S d) = true ∧ Nat.ble (wt (rd S d)) 16777216 = true then .ok (.str (repL (rd S d))) S else .bad
  | _ => .bad
section
variable {X : Cx} {pos : Pos} {k : Nat}
theorem cb_repr (hr : Room k X.A) (hg : X.A.guards = some []) : CB X (.builtin "repr") oRepr := fun W σ pins s σ' H xs us Q I rxs ⟨G, S, ds, rs, q, g⟩ => by
  unfold oRepr at g
  split at g
  · rename_i d
    split at g
    · rename_i h
      obtain ⟨v, rfl, dv⟩ := one_of q
      obtain ⟨u, rfl, ru⟩ := rxs.one
      have hw := Nat.le_of_ble_eq_true h.2
      obtain ⟨l1, sh⟩ := shown_le _ _ h.1 hw
      obtain ⟨as, r⟩ := Dp.reads I _ v u (dv.dpr rs h.1) ru
      obtain ⟨pd, epd⟩ : ∃ pd, pd = toPy (rd S d) := ⟨_, rfl⟩
      rw [← epd] at r
      have hd := (shp_ok _ _ h.1).2
      have hdc := PyData.hasDict_of_canLay _ (shp_ok _ _ h.1).1
      have hz : (toPy (rd S d)).shown.length ≤ sizeLine := by rw [sizeLine_eq]; omega
      have fin : ∀ (h' : Heap) (tk : Tok) (tk' : Nat), (∀ b o, s.heap.get? b = some o → h'.get? b = some o) → EP X pins σ' Q (.str (toPy (rd S d)).shown tk) { s with heap := h', toks := tk' } := fun h' tk tk' hk =>
        ⟨.str _, H, I.kept hk, ⟨tk, rfl⟩, by
          have e : (⟨(repL (rd S d)).toArray⟩ : Str) = (toPy (rd S d)).shown := by simp [repL]
          rw [← e]; exact Go.ret g rs rfl⟩
      cases u with
      | ref a =>
        rw [epd] at r
        exact repr_of_reads' r sh (fun e => by rw [hdc] at e; cases e) hg (by have := hr.un; omega) (fun _ _ e => e) (fun h' u' tk hk => fin h' u' tk hk) hz
      | none =>
        have e : toPy (rd S d) = .none := by rw [← epd]; cases r; rfl
        exact P.repr_of_none (by have z := fin s.heap s.toks (s.toks + 1) (fun _ _ e => e); rw [e] at z; exact z)
      | bool b =>
        have e : toPy (rd S d) = .bool b := by rw [← epd]; cases r; rfl
        exact P.repr_of_bool (by have z := fin s.heap s.toks (s.toks + 1) (fun _ _ e => e); rw [e] at z; exact z)
      | int i t =>
        have e : toPy (rd S d) = .int i := by rw [← epd]; cases r; rfl
        rw [e] at sh
        exact P.repr_of_int (of_decide_eq_true sh) (by have z := fin s.heap s.toks (s.toks + 1) (fun _ _ e => e); rw [e] at z; exact z)
      | str x t =>
        have e : toPy (rd S d) = .str x := by rw [← epd]; cases r; rfl
        rw [e] at hz
        exact P.repr_of_str (by have z := fin s.heap s.toks (s.toks + 1) (fun _ _ e => e); rw [e] at z; exact z) hz
      | _ => cases r
    · exact g.elim
  · exact g.elim
end
end Z

/-! Z16: dict comprehensions and displays. -/
namespace Z
open PySem PySem.Spec PyProof PyProof.Rows L2
def dcT (g : Tg) (t : T) (ek ev : E) (ρ : Env) (d : D) (S : Sto) : R (Option (D × D)) := match g d ρ S with
  | none => .bad
  | some ρ' => (t ρ' S).bind fun b S => if b = true then (ek ρ' S).bind fun y S => (ev ρ' S).bind fun z S => .ok (some (y, z)) S else .ok none S
def dcPut (a : List D × List D) (y z : D) : Option (List D × List D) := match keyOf y with
  | some _ => if fits (a.1.length + 1) = true then some (dput a.1 a.2 y z) else none
  | none => none
def dcS (turn : D → Sto → R (Option (D × D))) : List D → List D × List D → Sto → R (List D × List D)
  | [], a, S => .ok a S
  | d :: ds, a, S => match turn d S with
    | .ok (some (y, z)) S' => (match dcPut a y z with
      | some a' => dcS turn ds a' S'
      | none => .bad)
    | .ok none S' => dcS turn ds a S'
    | _ => .bad
def dcI (turn : D → Sto → R (Option (D × D))) (src : Src) : Nat → Nat → List D × List D → Sto → R (List D × List D)
  | 0, _, _, _ => .bad
  | k + 1, i, a, S => match look src S with
    | none => .bad
    | some ds => (match ds[i]? with
      | none => .ok a S
      | some d => (match turn d S with
        | .ok (some (y, z)) S' => (match dcPut a y z with
          | some a' => dcI turn src k (i + 1) a' S'
          | none => .bad)
        | .ok none S' => dcI turn src k (i + 1) a S'
        | _ => .bad))
theorem dcS_I {turn : D → Sto → R (Option (D × D))} {ds : List D} : ∀ (k i : Nat), ds.length < k + i → i ≤ ds.length → ∀ a S, dcI turn (.st ds) k i a S = dcS turn (ds.drop i) a S
  | 0, i, h, hi, a, S => by omega
  | k + 1, i, h, hi, a, S => by
    unfold dcI
    show (match ds[i]? with | none => _ | some d => _) = _
    cases e : ds[i]? with
    | none =>
      have := List.getElem?_eq_none_iff.mp e
      rw [List.drop_of_length_le this]
      rfl
    | some d =>
      obtain ⟨hl, hd⟩ := List.getElem?_eq_some_iff.mp e
      rw [List.drop_eq_getElem_cons hl, hd]
      have ih := dcS_I (turn := turn) (ds := ds) k (i + 1) (by omega) hl
      show (match turn d S with
        | .ok (some (y, z)) S' => (match dcPut a y z with
          | some a' => dcI turn (.st ds) k (i + 1) a' S'
          | none => .bad)
        | .ok none S' => dcI turn (.st ds) k (i + 1) a S'
        | _ => .bad) = _
      unfold dcS
      cases turn d S with
      | ok o S' =>
        cases o with
        | none => exact ih a S'
        | some p =>
          obtain ⟨y, z⟩ := p
          dsimp only
          cases dcPut a y z with
          | none => rfl
          | some a' => exact ih a' S'
      | ex x S' => rfl
      | bad => rfl
def dcRun (turn : D → Sto → R (Option (D × D))) (src : Src) (S : Sto) : R (List D × List D) := match src with
  | .st ds => dcS turn ds ([], []) S
  | .lv f => (match f S with
    | some ds => dcI turn (.lv f) (ds.length + 1) 0 ([], []) S
    | none => .bad)
theorem dcRun_I {turn : D → Sto → R (Option (D × D))} {src : Src} {S : Sto} : ∃ k, dcRun turn src S = dcI turn src k 0 ([], []) S := by
  cases src with
  | st ds => exact ⟨ds.length + 1, by rw [dcS_I _ 0 (by omega) (Nat.zero_le _)]; rfl⟩
  | lv f =>
    cases e : f S with
    | none => exact ⟨0, by show (match f S with | some ds => _ | none => _) = _; rw [e]; rfl⟩
    | some ds => exact ⟨ds.length + 1, by show (match f S with | some ds => _ | none => _) = _; rw [e]⟩
def eDc (vs : List Nat) (mi : EI) (g : Tg) (t : T) (ek ev : E) : E := fun ρ S => (mi ρ S).bind fun src S => match dcRun (dcT g t ek ev (wipeE ρ vs)) src S with
  | .ok a S' => .ok (.dct a.1 a.2) S'
  | _ => .bad
def LeftD (U : Wd) (G : Gh) (H1 : Hp) (Q : VK) (r : R (List D × List D)) : Prop := match r with
  | .ok a S' => ∀ G' v H', Step G H1 G' H' → RelS U G' S' H' → DV U G' H' (.dct a.1 a.2) v → Q v H'
  | _ => False
theorem back_dct {U : Wd} {G Gi : Gh} {S : Sto} {H1 : Hp} {D : Addr} {Si : Sto} {Hi : Hp} {ks zs : List Z.D} {kvs : List (Key × V)} (rs1 : RelS U G S H1) (hD : H1 D = none) (s : Step G H1 Gi Hi) (rs : RelS U Gi Si Hi) (hh : Gi.hid D) (h : Hi D = some (.dK kvs)) (hk : ks.map keyOf = kvs.map (fun p => some p.1)) (q : DVs U Gi Hi zs (kvs.map (·.2))) : DV U (Gi.back G) Hi (.dct ks zs) (.ref D) := by
  refine ⟨D, kvs, rfl, ⟨h, fun i hi e => rs.dis i hi (by rw [show Gi.ι i = D from e]; exact hh), fun z => ?_⟩, hk, q.kp (back_keep (Si := Si) s)⟩
  obtain ⟨u, w, _⟩ := rs1.hid D z
  rw [hD] at w; cases w
section
variable {X : Cx} {pos : Pos}
theorem dc_reads {U : Wd} {vs sl : List Nat} {mi : EI} {g : Tg} {t : T} {ek ev : E} {W : WX} {σ : L2.St} {H : Hp} {Q : VK} (hsl : ∀ i ∈ sl, i ∈ vs) (h : tEv U (eDc vs mi g t ek ev) W σ H Q) : tDc (tIv U mi W) (tGv U sl g) (tTv U t W0) (tEv U ek W0) (tEv U ev W0) vs σ H Q := by
  obtain ⟨G, ρ, S, rs, re, h⟩ := h
  refine ⟨G, ρ, S, rs, re, Go.mono (Go.bind (rel := relI U) h) fun J H1 ⟨G1, src, S1, s1, rs1, ri, g1⟩ => ?_⟩
  have re1 := re.mono s1
  intro D hD
  have hleft : LeftD U G1 H1 Q (dcRun (dcT g t ek ev (wipeE ρ vs)) src S1) := by
    unfold LeftD
    cases er : dcRun (dcT g t ek ev (wipeE ρ vs)) src S1 with
    | ok a S' => rw [er] at g1; exact g1
    | ex x S' => rw [er] at g1; exact g1.elim
    | bad => rw [er] at g1; exact g1.elim
  obtain ⟨k, e0⟩ := dcRun_I (turn := dcT g t ek ev (wipeE ρ vs)) (src := src) (S := S1)
  rw [e0] at hleft
  refine ⟨fun i m H' => ∃ (Gi : Gh) (Si : Sto) (kvs : List (Key × V)) (a : List Z.D × List Z.D), Step G1 H1 Gi H' ∧ RelS U Gi Si H' ∧ Gi.hid D ∧ H' D = some (.dK kvs) ∧ a.1.map keyOf = kvs.map (fun p => some p.1) ∧ DVs U Gi H' a.2 (kvs.map (·.2)) ∧ LeftD U G1 H1 Q (dcI (dcT g t ek ev (wipeE ρ vs)) src m i a Si),
    ⟨k, G1.hide D, S1, [], ([], []), hide_step rs1 hD, hide_rel rs1 hD rfl, .inr rfl, upd_same, rfl, rfl, hleft⟩, ?_⟩
  intro i m H2 ⟨G2, S2, kvs, a, s2, rs2, hh2, hD2, hka, qa, hl⟩
  cases m with
  | zero => exact hl.elim
  | succ m =>
    unfold dcI at hl
    cases el : look src S2 with
    | none => rw [el] at hl; exact hl.elim
    | some ds =>
      rw [el] at hl
      dsimp only at hl
      obtain ⟨r1, r2⟩ := ri G2 H2 S2 ds s2 rs2 el i
      cases ed : ds[i]? with
      | none =>
        rw [ed] at hl
        exact .inl ⟨r2 ed, hl _ _ _ (back_step s2) (back_rel s2 rs2) (back_dct rs1 hD s2 rs2 hh2 hD2 hka qa)⟩
      | some d =>
        rw [ed] at hl
        dsimp only at hl
        obtain ⟨go, yl⟩ := r1 d ed
        refine .inr ⟨go, fun H' => ∃ m', m' < m + 1 ∧ ∃ (Gi : Gh) (Si : Sto) (kvs : List (Key × V)) (a : List Z.D × List Z.D), Step G1 H1 Gi H' ∧ RelS U Gi Si H' ∧ Gi.hid D ∧ H' D = some (.dK kvs) ∧ a.1.map keyOf = kvs.map (fun p => some p.1) ∧ DVs U Gi H' a.2 (kvs.map (·.2)) ∧ LeftD U G1 H1 Q (dcI (dcT g t ek ev (wipeE ρ vs)) src m' (i + 1) a Si), fun H' h => h, fun x H3 hy => ?_⟩
        obtain ⟨G3, s3, rs3, dv⟩ := yl x H3 hy
        have s13 := s2.trans s3
        refine ⟨G3, wipeE ρ vs, S2, d, rs3, (re1.mono s13).wipe vs, dv, ?_⟩
        have hh3 := s3.hid D hh2
        have hD3 := s3.keep D _ hD2 (.inr hh2)
        have qa3 := qa.mono s3
        unfold dcT at hl
        cases eg : g d (wipeE ρ vs) S2 with
        | none => rw [eg] at hl; exact hl.elim
        | some ρ3 =>
          rw [eg] at hl
          dsimp only at hl
          intro σ4 re4 df
          refine ⟨(wipe_diff df hsl).trans wipe_wipe, G3, ρ3, S2, rs3, re4, ?_⟩
          cases et : t ρ3 S2 with
          | bad => rw [et] at hl; exact hl.elim
          | ex x S' => rw [et] at hl; exact hl.elim
          | ok b S4 =>
            rw [et] at hl
            intro G4 b' H4 s4 rs4 eb
            have eb : b = b' := eb
            subst eb
            have s14 := s13.trans s4
            have hh4 := s4.hid D hh3
            have hD4 := s4.keep D _ hD3 (.inr hh3)
            have qa4 := qa3.mono s4
            unfold R.bind at hl
            dsimp only at hl
            by_cases hb : b = true
            · rw [if_pos hb] at hl ⊢
              refine ⟨G4, ρ3, S4, rs4, re4.mono s4, ?_⟩
              cases ee : ek ρ3 S4 with
              | bad => rw [ee] at hl; exact hl.elim
              | ex x S' => rw [ee] at hl; exact hl.elim
              | ok y S5 =>
                rw [ee] at hl
                dsimp only at hl
                intro G5 v H5 s5 rs5 dy
                have s15 := s14.trans s5
                have hh5 := s5.hid D hh4
                have hD5 := s5.keep D _ hD4 (.inr hh4)
                have qa5 := qa4.mono s5
                refine ⟨G5, ρ3, S5, rs5, (re4.mono s4).mono s5, ?_⟩
                cases ez : ev ρ3 S5 with
                | bad => rw [ez] at hl; exact hl.elim
                | ex x S' => rw [ez] at hl; exact hl.elim
                | ok z S6 =>
                  rw [ez] at hl
                  dsimp only at hl
                  intro G6 w H6 s6 rs6 dz
                  have s16 := s15.trans s6
                  have hh6 := s6.hid D hh5
                  have hD6 := s6.keep D _ hD5 (.inr hh5)
                  have qa6 := qa5.mono s6
                  have dy6 := dy.mono s6
                  unfold dcPut at hl
                  cases ek2 : keyOf y with
                  | none => rw [ek2] at hl; exact hl.elim
                  | some kk =>
                    rw [ek2] at hl
                    dsimp only at hl
                    by_cases hf : fits (a.1.length + 1) = true
                    · rw [if_pos hf] at hl
                      dsimp only at hl
                      obtain ⟨p1, p2⟩ := dput_ok ek2 dz hka qa6
                      have hlen : kvs.length = a.1.length := by have := congrArg List.length hka; simpa using this.symm
                      have := fits_le hf
                      exact ⟨kvs, kk, keyOf_V ek2 dy6, hD6, by omega, m, Nat.lt_succ_self m, G6, S6, putK kvs kk w, dput a.1 a.2 y z, step_free s16 hD, hid_rel rs6 hh6 rfl, hh6, upd_same, p1, p2.kp (hid_keep hh6), hl⟩
                    · rw [if_neg hf] at hl; exact hl.elim
            · rw [if_neg hb] at hl ⊢
              exact ⟨m, Nat.lt_succ_self m, G4, S4, kvs, a, s14, rs4, hh4, hD4, hka, qa4, hl⟩
theorem ce_dc {kx vx tg iter : Expr} {ifs : List Expr} {scope : Scope} (own : List (Str × Nat)) {sl : List Nat} {mi : EI} {g : Tg} {t : T} {ek ev : E} (hc : X.calm = true) (hN : X.N.Nodup) (hi : CI X tg iter mi) (ok : BlkOk X.N X.env.scope scope own) (hsl : ∀ i ∈ sl, i ∈ own.map (·.2))
    (hg : ∀ s H C cl fp, CG (cxB X scope s H C cl fp) tg sl g) (ht : ∀ s H C cl fp, CTs (cxB X scope s H C cl fp) ifs t) (hk : ∀ s H C cl fp, CE (cxB X scope s H C cl fp) kx ek) (he : ∀ s H C cl fp, CE (cxB X scope s H C cl fp) vx ev) (hs : ∀ x, foldedSetIterable iter X.env x = pure x := by intro _; rfl) :
    CE X (.DictComp kx vx [⟨tg, iter, ifs, 0⟩] scope pos) (eDc (own.map (·.2)) mi g t ek ev) := fun W tk =>
  PE.imp (pe_dc (g := tGv (wd X) sl g) (tt := tTv (wd X) t W0) (tk := tEv (wd X) ek W0) (tv := tEv (wd X) ev W0) hc hN (hi W tk) ok (fun s H C cl fp => hg s H C cl fp) (fun s H C cl fp => ht s H C cl fp W0 takes0) (fun s H C cl fp => hk s H C cl fp W0 takes0) (fun s H C cl fp => he s H C cl fp W0 takes0) hs) fun σ H Q h => dc_reads hsl h

/-! ### {k: v, ..} -/
abbrev Ps := Env → Sto → R (List (D × D))
def relP (U : Wd) : Gh → Hp → List (D × D) → List (V × V) → Prop := fun G H ps vs => DVs U G H (ps.map (·.1)) (vs.map (·.1)) ∧ DVs U G H (ps.map (·.2)) (vs.map (·.2))
def tPv (U : Wd) (m : Ps) (W : WX) (σ : L2.St) (H : Hp) (Q : List (V × V) → Hp → Prop) : Prop := ∃ G ρ S, RelS U G S H ∧ RelE U G ρ σ H ∧ Go (relP U) U W σ G H (m ρ S) Q
def CPs (X : Cx) (p : Pos) (keys : List (Option Expr)) (values : List Expr) (m : Ps) : Prop := ∀ W, Takes X W → ∃ trs, PPs X p keys values trs ∧ ∀ σ H Q, tPv (wd X) m W σ H Q → tPairs trs σ H Q
def pNil : Ps := fun _ S => .ok [] S
def pCons (mk mv : E) (ms : Ps) : Ps := fun ρ S => (mk ρ S).bind fun a S => (mv ρ S).bind fun b S => (ms ρ S).bind fun ps S => .ok ((a, b) :: ps) S
theorem cps_nil : CPs X pos [] [] pNil := fun W tk => ⟨[], pps_nil, fun σ H Q ⟨G, ρ, S, rs, re, h⟩ => Go.ret (v := []) h rs ⟨rfl, rfl⟩⟩
theorem cps_cons {k v : Expr} {ks : List (Option Expr)} {vs : List Expr} {mk mv : E} {ms : Ps} (hk : CE X k mk) (hv : CE X v mv) (hr : CPs X pos ks vs ms) : CPs X pos (some k :: ks) (v :: vs) (pCons mk mv ms) := fun W tk => by
  obtain ⟨trs, h1, h2⟩ := hr W tk
  refine ⟨_, pps_cons (hk W tk) (hv W tk) h1, fun σ H Q ⟨G, ρ, S, rs, re, h⟩ => ?_⟩
  obtain ⟨G0, ρ0, S0, a, b, c⟩ := tEv.bind rs re h
  refine ⟨G0, ρ0, S0, a, b, Go.mono c fun x H1 ⟨G1, d1, S1, s1, rs1, re1, dv1, g1⟩ => ?_⟩
  obtain ⟨G0, ρ0, S0, a, b, c⟩ := tEv.bind rs1 re1 g1
  refine ⟨G0, ρ0, S0, a, b, Go.mono c fun y H2 ⟨G2, d2, S2, s2, rs2, re2, dv2, g2⟩ => ?_⟩
  refine h2 σ H2 _ ⟨G2, ρ, S2, rs2, re2, Go.mono (Go.bind (rel := relP (wd X)) g2) fun ps H3 ⟨G3, ds, S3, s3, rs3, q3, g3⟩ => ?_⟩
  exact Go.ret g3 rs3 ⟨⟨_, _, rfl, dv1.mono (s2.trans s3), q3.1⟩, ⟨_, _, rfl, dv2.mono s3, q3.2⟩⟩
def dctG : List (D × D) → List D × List D → Option (List D × List D)
  | [], a => some a
  | p :: ps, a => match dcPut a p.1 p.2 with
    | some a' => dctG ps a'
    | none => none
def eDisp (m : Ps) : E := fun ρ S => (m ρ S).bind fun ps S => match dctG ps ([], []) with
  | some a => if Nat.ble ps.length 15 = true then .ok (.dct a.1 a.2) S else .bad
  | none => .bad
theorem dctG_ok {U : Wd} {G : Gh} {H : Hp} : ∀ {ps : List (D × D)} {vs : List (V × V)} {a a' : List D × List D} {kvs : List (Key × V)}, relP U G H ps vs → a.1.map keyOf = kvs.map (fun p => some p.1) → DVs U G H a.2 (kvs.map (·.2)) → dctG ps a = some a' →
    ∃ more : List (Key × V), vs = more.map (fun kv => (kV kv.1, kv.2)) ∧ a'.1.map keyOf = (mergeK kvs more).map (fun p => some p.1) ∧ DVs U G H a'.2 ((mergeK kvs more).map (·.2)) ∧ more.length = ps.length
  | [], vs, a, a', kvs, r, h1, h2, h => by
    cases h
    have : vs = [] := by
      have z : vs.map (·.1) = [] := r.1
      simpa using z
    subst this
    exact ⟨[], rfl, h1, h2, rfl⟩
  | (y, z) :: ps, vs, a, a', kvs, r, h1, h2, h => by
    obtain ⟨⟨v1, r1, e1, q1, t1⟩, ⟨v2, r2, e2, q2, t2⟩⟩ := r
    cases vs with
    | nil => cases e1
    | cons p vs =>
      have e1 : p.1 :: vs.map (·.1) = v1 :: r1 := e1
      have e2 : p.2 :: vs.map (·.2) = v2 :: r2 := e2
      injection e1 with e1 e1'
      injection e2 with e2 e2'
      subst e1 e1' e2 e2'
      unfold dctG dcPut at h
      dsimp only at h
      cases ek : keyOf y with
      | none => rw [ek] at h; cases h
      | some kk =>
        rw [ek] at h
        dsimp only at h
        by_cases hf : fits (a.1.length + 1) = true
        · rw [if_pos hf] at h
          obtain ⟨p1, p2⟩ := dput_ok ek q2 h1 h2
          obtain ⟨more, a1, a2, a3, a4⟩ := dctG_ok (ps := ps) (vs := vs) (a := dput a.1 a.2 y z) (kvs := putK kvs kk p.2) ⟨t1, t2⟩ p1 p2 h
          refine ⟨(kk, p.2) :: more, ?_, a2, a3, by rw [List.length_cons, a4]; rfl⟩
          rw [a1, List.map_cons]
          have := keyOf_V ek q1
          rw [← this]
        · rw [if_neg hf] at h; cases h
theorem ce_disp {keys : List (Option Expr)} {values : List Expr} {m : Ps} (h : CPs X pos keys values m) (hall : keys.all (·.isSome) = true := by rfl) (hl : keys.length = values.length := by rfl) (h0 : keys ≠ [] := by exact List.cons_ne_nil _ _) (h15 : keys.length ≤ 15 := by decide) : CE X (.Dict keys values pos) (eDisp m) := fun W tk => by
  obtain ⟨trs, h1, h2⟩ := h W tk
  refine PE.imp (pe_disp h1 hall hl h0 h15) fun σ H Q ⟨G, ρ, S, rs, re, h⟩ => fun D hD => ?_
  refine h2 σ _ _ ⟨G.hide D, ρ, S, hide_rel rs hD rfl, re.kp (hide_step rs hD).kp, ?_⟩
  have h0' := h
  unfold eDisp at h0'
  cases e : m ρ S with
  | bad => rw [e] at h0'; exact h0'
  | ex x S' =>
    rw [e] at h0'
    intro G' H' cls dd s' rs' xv
    have st : Step G H G' H' := (hide_step rs hD).trans s'
    refine h0' (G'.back G) H' cls dd (back_step st) (back_rel st rs') ?_
    obtain ⟨C, a1, a2, a3⟩ := xv
    exact ⟨C, a1, a2, a3.imp id fun ⟨d, fvs, b1, b2, b3, b4, b5⟩ => ⟨d, fvs, b1, b2, ((back_keep (Si := S') st).keep _ _ b2 b3).2, b4, b5.kp (back_keep (Si := S') st)⟩⟩
  | ok ps S' =>
    rw [e] at h0'
    intro G' vs H' s' rs' q
    have st : Step G H G' H' := (hide_step rs hD).trans s'
    have hh : G'.hid D := s'.hid D (.inr rfl)
    have hD' : H' D = some (.dK []) := s'.keep D _ upd_same (.inr (.inr rfl))
    have h' : GoD (wd X) W σ G H (match dctG ps ([], []) with
      | some a => if Nat.ble ps.length 15 = true then .ok (.dct a.1 a.2) S' else .bad
      | none => .bad) Q := h0'
    cases ed : dctG ps ([], []) with
    | none => rw [ed] at h'; exact h'.elim
    | some a =>
      rw [ed] at h'
      dsimp only at h'
      by_cases hb : Nat.ble ps.length 15 = true
      · rw [if_pos hb] at h'
        obtain ⟨more, a1, a2, a3, a4⟩ := dctG_ok (a := ([], [])) (kvs := []) q rfl rfl ed
        refine ⟨hD', more, a1, by rw [a4]; exact Nat.le_of_ble_eq_true hb, ?_⟩
        have st2 := step_free (o := .dK (mergeK [] more)) st hD
        have rs2 := hid_rel (o := .dK (mergeK [] more)) rs' hh rfl
        exact h' _ _ _ (back_step st2) (back_rel st2 rs2) (back_dct rs hD st2 rs2 hh upd_same a2 (a3.kp (hid_keep hh)))
      · rw [if_neg hb] at h'; exact h'.elim
end
end Z

/-! Z17: new objects of the store. -/
namespace Z
open PySem PySem.Spec PyProof PyProof.Rows L2
section
variable {X : Cx} {pos : Pos}
theorem Go.pushL {U : Wd} {W : WX} {σ : L2.St} {G : Gh} {S : Sto} {H : Hp} {ds : List D} {vs : List V} {p : Addr} {Q : VK} (g : GoD U W σ G H (.ok (.ref S.len) (S.push (.lst ds))) Q) (rs : RelS U G S H) (hp : H p = none) (q : DVs U G H ds vs) : Q (.ref p) (upd H p (.lst vs)) := by
  have st : Step G H (G.push p) (upd H p (.lst vs)) := step_push rs hp
  refine g (G.push p) (.ref p) _ st (rel_push rs hp ⟨vs, upd_same, q.mono st⟩) ⟨?_, ?_⟩
  · show S.len < G.n + 1
    rw [rs.n]; exact Nat.lt_succ_self _
  · rw [← rs.n, push_self]
/-- a list that will be changed -/
def eLstR (m : As) : E := fun ρ S => (m ρ S).bind fun as S => if fits as.length = true then .ok (.ref S.len) (S.push (.lst as)) else .bad
theorem ce_lstR {es : List Expr} {m : As} (h : CA X es m) : CE X (.List es pos) (eLstR m) := fun W tk => PE.imp (pe_lst (h W tk)) fun σ H Q ⟨G, ρ, S, rs, re, h⟩ => by
  obtain ⟨G0, ρ0, S0, a, b, c⟩ := tAv.bind rs re h
  refine ⟨G0, ρ0, S0, a, b, Go.mono c fun vs H1 ⟨G1, ds, S1, s, rs1, re1, dvs, g⟩ => ?_⟩
  split at g
  · rename_i hf
    exact ⟨by rw [dvs.length]; exact fits_le hf, fun p hp => Go.pushL g rs1 hp dvs⟩
  · exact g.elim
def intsOf : List D → Option (List Int)
  | [] => some []
  | .int b :: ds => (match intsOf ds with
    | some bs => some (b :: bs)
    | none => none)
  | _ :: _ => none
theorem intsOf_map : ∀ {ds : List D} {bs : List Int}, intsOf ds = some bs → ds = bs.map .int
  | [], bs, h => by cases h; rfl
  | d :: ds, bs, h => by
    cases d with
    | int b =>
      unfold intsOf at h
      cases z : intsOf ds with
      | none => rw [z] at h; cases h
      | some cs => rw [z] at h; cases h; rw [intsOf_map z]; rfl
    | _ => cases h
theorem intsOf_vs {U : Wd} {G : Gh} {H : Hp} : ∀ {bs : List Int} {vs : List V}, DVs U G H (bs.map .int) vs → vs = bs.map V.int
  | [], vs, q => q
  | b :: bs, vs, ⟨v, r, e, h1, h2⟩ => by
    have h1 : v = .int b := h1
    rw [e, h1, intsOf_vs h2]; rfl
/-- a law's bag -/
def eBag (m : As) : E := fun ρ S => (m ρ S).bind fun as S => match as with
  | [.int a, .int b, .int c, .lst ds] => (match intsOf ds with
    | some l => .ok (.ref S.len) (S.push (.bag ⟨a, b, c, l⟩))
    | none => .bad)
  | _ => .bad
theorem ce_bag {es : List Expr} {m : As} (h : CA X es m) : CE X (.List es pos) (eBag m) := fun W tk => PE.imp (pe_lst (h W tk)) fun σ H Q ⟨G, ρ, S, rs, re, h⟩ => by
  obtain ⟨G0, ρ0, S0, a, b, c⟩ := tAv.bind rs re h
  refine ⟨G0, ρ0, S0, a, b, Go.mono c fun vs H1 ⟨G1, ds, S1, s, rs1, re1, dvs, g⟩ => ?_⟩
  split at g
  · rename_i a b c ds
    split at g
    · rename_i l hl
      obtain ⟨v1, r1, e1, q1, v2, r2, e2, q2, v3, r3, e3, q3, v4, r4, e4, q4, q5⟩ := dvs
      have q5 : r4 = [] := q5
      have q1 : v1 = _ := q1
      have q2 : v2 = _ := q2
      have q3 : v3 = _ := q3
      obtain ⟨p4, vs4, ev4, t4, qs4⟩ := q4
      rw [intsOf_map hl] at qs4
      have ev := intsOf_vs qs4
      subst q5 e4 e3 e2 e1 q1 q2 q3 ev4 ev
      refine ⟨?_, fun p hp => ?_⟩
      · show 4 ≤ sizeLine
        rw [sizeLine_eq]; decide
      · have st : Step G1 H1 (G1.push p) (upd H1 p (.lst [.int a, .int b, .int c, .ref p4])) := step_push rs1 hp
        refine g (G1.push p) (.ref p) _ st (rel_push rs1 hp ⟨p4, upd_same, t4.mono st⟩) ⟨?_, ?_⟩
        · show S1.len < G1.n + 1
          rw [rs1.n]; exact Nat.lt_succ_self _
        · rw [← rs1.n, push_self]
    · exact g.elim
  · exact g.elim
/-- list(..), to be changed -/
def oListR : Fn := fun ds S => match ds with
  | [d] => (match rd S d with
    | .tup es => .ok (.ref S.len) (S.push (.lst es))
    | .lst es => .ok (.ref S.len) (S.push (.lst es))
    | _ => .bad)
  | _ => .bad
theorem cb_listR : CB X (.type "list") oListR := fun W σ => CallR.imp call_list_of fun xs H Q ⟨G, S, ds, rs, q, g⟩ => by
  unfold oListR at g
  split at g
  · obtain ⟨v, rfl, dv⟩ := one_of q
    split at g
    · rename_i es e
      obtain ⟨p, vs, rfl, t, q⟩ := rd_tup e dv
      exact ⟨p, vs, rfl, .inr t, fun l hl => Go.pushL g rs hl q⟩
    · rename_i es e
      obtain ⟨p, vs, rfl, t, q⟩ := rd_lst rs e dv
      exact ⟨p, vs, rfl, .inl t, fun l hl => Go.pushL g rs hl q⟩
    · exact g.elim
  · exact g.elim
/-- f() -/
def eCall0 (F : Fn) : E := fun _ S => F [] S
theorem ce_call0 {k : Nat} {f : Addr} {fd : FuncData} {F : Fn} {x : Str} {p : Pos} (hF : FS X.prog X.w X.K X.mg X.base k f fd [] F) (hr : Room k X.A) (hgd : X.A.guards = some []) (hg : Gl X x) (hm : X.mg x = some (.ref f)) (hk : PySem.W.keepIn X.K (.ref f) = true) (hb : Binds X.K fd [] [])
    (hdb : (x == ("__debug__" : Str)) = false := by decide) : CE X (.Call (.Name x p) [] [] pos) (eCall0 F) := fun W tk => PE.imp (pe_callG0 (E := WE W) hF hr hgd hg hm hk hb (fun σ => passAt tk σ) hdb) fun σ H Q ⟨G, ρ, S, rs, re, h⟩ =>
  ⟨rfl, G, S, [], rs, rfl, go_call h⟩
end

/-! ### a law's words that all laws share -/
mutual
/-- the very same -/
def beqD : D → D → Bool
  | .non, .non => true
  | .bl a, .bl b => a == b
  | .int i, .int j => decide (i = j)
  | .str x, .str y => decide (x = y)
  | .tup xs, .tup ys => beqDs xs ys
  | .lst xs, .lst ys => beqDs xs ys
  | _, _ => false
def beqDs : List D → List D → Bool
  | [], [] => true
  | x :: xs, y :: ys => beqD x y && beqDs xs ys
  | _, _ => false
end
mutual
theorem beqD_eq : ∀ {a b : D}, beqD a b = true → a = b
  | .non, b, h => by cases b <;> first | rfl | (simp [beqD] at h; done)
  | .bl x, b, h => by cases b <;> first | (simp [beqD] at h; done) | (simp [beqD] at h; subst h; rfl)
  | .int x, b, h => by cases b <;> first | (simp [beqD] at h; done) | (simp [beqD] at h; subst h; rfl)
  | .str x, b, h => by cases b <;> first | (simp [beqD] at h; done) | (simp [beqD] at h; subst h; rfl)
  | .tup xs, b, h => by
    cases b with
    | tup ys => exact congrArg D.tup (beqDs_eq (by simpa [beqD] using h))
    | _ => simp [beqD] at h
  | .lst xs, b, h => by
    cases b with
    | lst ys => exact congrArg D.lst (beqDs_eq (by simpa [beqD] using h))
    | _ => simp [beqD] at h
  | .dct _ _, b, h => by simp [beqD] at h
  | .dcn _ _, b, h => by simp [beqD] at h
  | .ref _, b, h => by simp [beqD] at h
  | .arg _, b, h => by simp [beqD] at h
theorem beqDs_eq : ∀ {a b : List D}, beqDs a b = true → a = b
  | [], [], _ => rfl
  | [], _ :: _, h => by simp [beqDs] at h
  | _ :: _, [], h => by simp [beqDs] at h
  | x :: xs, y :: ys, h => by
    have h : (beqD x y && beqDs xs ys) = true := by simpa [beqDs] using h
    obtain ⟨h1, h2⟩ := Bool.and_eq_true_iff.mp h
    rw [beqD_eq h1, beqDs_eq h2]
end
mutual
theorem eqv_refl : ∀ (d : D) (n : Nat), shp n d = true → eqv d d = true
  | .non, _, _ => rfl
  | .bl b, _, _ => by simp [eqv]
  | .int i, _, _ => by simp [eqv]
  | .str s, _, _ => by simp [eqv]
  | .tup ds, n, h => by rw [eqv]; exact eqvs_refl ds n (by simpa [shp] using h)
  | .lst ds, n, h => by rw [eqv]; exact eqvs_refl ds n (by simpa [shp] using h)
  | .dct _ _, n, h => by simp [shp] at h
  | .dcn _ _, n, h => by simp [shp] at h
  | .ref _, n, h => by simp [shp] at h
  | .arg _, n, h => by simp [shp] at h
theorem eqvs_refl : ∀ (ds : List D) (n : Nat), shps n ds = true → eqvs ds ds = true
  | [], _, _ => rfl
  | d :: ds, 0, h => by simp [shps] at h
  | d :: ds, n + 1, h => by
    have h : (shp n d && shps (n + 1) ds) = true := by simpa [shps] using h
    obtain ⟨h1, h2⟩ := Bool.and_eq_true_iff.mp h
    rw [eqvs, eqv_refl d n h1, eqvs_refl ds (n + 1) h2]; rfl
end
def okW (d : D) : Bool := shp 60 d && Nat.ble (wt d) 16777216
theorem okW_iff {d : D} (h : okW d = true) : shp 60 d = true ∧ Nat.ble (wt d) 16777216 = true := Bool.and_eq_true_iff.mp h
theorem wt_atom {d : D} (h : okW d = true) : shp 60 d = true := (okW_iff h).1
/-- repr(a) == repr(b) and a == b, without the texts -/
def alike : Fn := fun ds S => match ds with
  | [a, b] => if okW (rd S a) = true ∧ okW (rd S b) = true then (if beqD (rd S a) (rd S b) = true then .ok (.bl true) S else if eqv (rd S a) (rd S b) = true then .bad else .ok (.bl false) S) else .bad
  | _ => .bad
/-- as it is written -/
def alikeC : C := sRet (eAn (eOp oEq (eB oRepr (aCons (eVar 0) aNil)) (eB oRepr (aCons (eVar 1) aNil))) (eOp oEq (eVar 0) (eVar 1)))
theorem oEq_gen {a b : D} {S : Sto} (ha : shp 60 (rd S a) = true) (hb : shp 60 (rd S b) = true) : oEq a b S = .ok (.bl (eqv (rd S a) (rd S b))) S := by
  unfold oEq
  split
  · show _ = R.ok (D.bl (eqv (.int _) (.int _))) S
    simp [eqv]
  · show _ = R.ok (D.bl (eqv (.str _) (.str _))) S
    simp [eqv]
  · rw [if_pos ⟨ha, hb⟩]
theorem alike_ok (ds : List D) (S : Sto) : alike ds S = .bad ∨ alike ds S = fnS 2 2 alikeC ds S := by
  unfold alike
  split
  · rename_i a b
    split
    · rename_i h
      obtain ⟨a1, a2⟩ := okW_iff h.1
      obtain ⟨b1, b2⟩ := okW_iff h.2
      have ra : oRepr [a] S = .ok (.str (repL (rd S a))) S := if_pos ⟨a1, a2⟩
      have rb : oRepr [b] S = .ok (.str (repL (rd S b))) S := if_pos ⟨b1, b2⟩
      have q : alikeC (env0 2 2 [a, b]) S = .rt (.bl (decide (repL (rd S a) = repL (rd S b)) && eqv (rd S a) (rd S b))) S := by
        have e0 : eOp oEq (eB oRepr (aCons (eVar 0) aNil)) (eB oRepr (aCons (eVar 1) aNil)) (env0 2 2 [a, b]) S = .ok (.bl (decide (repL (rd S a) = repL (rd S b)))) S := by
          have ea : eB oRepr (aCons (eVar 0) aNil) (env0 2 2 [a, b]) S = .ok (.str (repL (rd S a))) S := ra
          have eb : eB oRepr (aCons (eVar 1) aNil) (env0 2 2 [a, b]) S = .ok (.str (repL (rd S b))) S := rb
          unfold eOp
          rw [ea]
          unfold R.bind
          dsimp only
          rw [eb]
          rfl
        have e1 : eOp oEq (eVar 0) (eVar 1) (env0 2 2 [a, b]) S = .ok (.bl (eqv (rd S a) (rd S b))) S := (show eOp oEq (eVar 0) (eVar 1) (env0 2 2 [a, b]) S = oEq a b S from rfl).trans (oEq_gen a1 b1)
        unfold alikeC sRet eAn
        rw [e0]
        unfold R.bind R.toS
        dsimp only
        rw [e1]
        by_cases e : repL (rd S a) = repL (rd S b)
        · rw [decide_eq_true e]; rfl
        · rw [decide_eq_false e]; rfl
      have e2 : fnS 2 2 alikeC [a, b] S = .ok (.bl (decide (repL (rd S a) = repL (rd S b)) && eqv (rd S a) (rd S b))) S := by unfold fnS; rw [q]
      rw [e2]
      by_cases hb : beqD (rd S a) (rd S b) = true
      · right
        rw [if_pos hb, ← beqD_eq hb, decide_eq_true rfl, eqv_refl _ _ a1]; rfl
      · rw [if_neg hb]
        by_cases he : eqv (rd S a) (rd S b) = true
        · rw [if_pos he]; exact .inl rfl
        · right
          rw [if_neg he, Bool.eq_false_iff.mpr he, Bool.and_false]
    · exact .inl rfl
  · exact .inl rfl
end Z

/-! ZH: defs by name. -/
namespace Z
open PySem PySem.Spec PyProof PyProof.Rows L2
structure Fs (P : Program) (w : World) (K : PySem.W.Frag) (mg : Str → Option Value) (base : Heap) (k : Nat) (x : Str) (ps : List Str) (F : Fn) : Prop where
  ex : ∃ (f : Addr) (fd : FuncData), FS P w K mg base k f fd ps F ∧ mg x = some (.ref f) ∧ PySem.W.keepIn K (.ref f) = true ∧ Binds K fd ps [] ∧ ∃ oc od osl, K.lookup f = some ⟨oc, od, .func fd, osl⟩
theorem fd_lk {K : PySem.W.Frag} {x qual : Str} {params : Arguments} {bd : List Stmt} {scope : Scope} {f : Addr} {fd : FuncData} (F : FunD K x qual params bd scope [] [] f fd) : ∃ oc od osl, K.lookup f = some ⟨oc, od, .func fd, osl⟩ := by
  obtain ⟨oc, od, _, _, _, _, _, _, _, osl, _, lk, _⟩ := F.ex
  exact ⟨oc, od, osl, lk⟩
section
variable {P : Program} {w : World} {K : PySem.W.Frag} {mg : Str → Option Value} {base : Heap} {j k : Nat} {x : Str} {ps : List Str} {F F' : Fn}
theorem Fs.mono (h : Fs P w K mg base j x ps F) (l : j ≤ k) : Fs P w K mg base k x ps F := let ⟨f, fd, a, b⟩ := h.ex; ⟨f, fd, a.mono l, b⟩
theorem Fs.A (h : Fs P w K mg base k x ps F) : Fs P w K mg base k x ps (fnA F) := let ⟨f, fd, a, b⟩ := h.ex; ⟨f, fd, a.A, b⟩
theorem Fs.B (h : Fs P w K mg base k x ps F) : Fs P w K mg base k x ps (fnB F) := let ⟨f, fd, a, b⟩ := h.ex; ⟨f, fd, a.B, b⟩
theorem Fs.imp (h : Fs P w K mg base k x ps F) (i : ∀ ds S, F' ds S = .bad ∨ F' ds S = F ds S) : Fs P w K mg base k x ps F' := let ⟨f, fd, a, b⟩ := h.ex; ⟨f, fd, a.imp i, b⟩
/-- what never answers -/
def fn0 : Fn := fun _ _ => .bad
theorem FS.none {f : Addr} {fd : FuncData} : FS P w K mg base k f fd ps fn0 := ⟨fun vs H Q E ⟨_, G, S, ds, rs, q, g⟩ => g.elim, fun A outer s H args us vs Q E hr hg he hb hv ⟨_, G, S, ds, rs, q, g⟩ => g.elim⟩
theorem fs_mk {qual : Str} {params : Arguments} {bd : List Stmt} {scope : Scope} {f : Addr} {fd : FuncData} {N : List Str} {body : C} (F : FunD K x qual params bd scope [] [] f fd) (hm : mg x = some (.ref f)) (hbind : Binds K fd ps []) (Sc : FnScope N ps scope)
    (hb : ∀ (cdv : Value) (A : Around) (outer : List PySem.Env) (s : Shared) (H : Hp) (E : XK), StdS (cxF P w K mg base N qual scope f cdv A outer s H E) k → CSs (cxF P w K mg base N qual scope f cdv A outer s H E) bd body) :
    Fs P w K mg base (k + 1) x ps (fnS ps.length N.length body) := ⟨f, fd, fs_of F Sc hb, hm, F.kp, hbind, fd_lk F⟩
theorem fs_none {qual : Str} {params : Arguments} {bd : List Stmt} {scope : Scope} {f : Addr} {fd : FuncData} (F : FunD K x qual params bd scope [] [] f fd) (hm : mg x = some (.ref f)) (hbind : Binds K fd ps []) : Fs P w K mg base k x ps fn0 := ⟨f, fd, FS.none, hm, F.kp, hbind, fd_lk F⟩
end
section
variable {X : Cx} {pos : Pos} {j k : Nat}
theorem ce_fn {x : Str} {ps : List Str} {F : Fn} {p : Pos} {e : Expr} {es : List Expr} {ma : As} (h : Fs X.prog X.w X.K X.mg X.base j x ps F) (st : Std X k) (hjk : j ≤ k) (hg : Gl X x) (ha : CA X (e :: es) ma) (hdb : (x == ("__debug__" : Str)) = false := by decide) (he : starEach (e :: es) X.env = (false, eval e X.env) :: starEach es X.env := by rfl) (hpl : (backTo pos (starEach es X.env)).any (·.1) = false := by rfl) :
    CE X (.Call (.Name x p) (e :: es) [] pos) (eCall ps.length F ma) := by
  obtain ⟨f, fd, a, b, c, d, _⟩ := h.ex
  exact ce_call a (st.hr.mono hjk) st.hg hg b c d ha hdb he hpl
theorem ce_fn0 {x : Str} {F : Fn} {p : Pos} (h : Fs X.prog X.w X.K X.mg X.base j x [] F) (st : Std X k) (hjk : j ≤ k) (hg : Gl X x) (hdb : (x == ("__debug__" : Str)) = false := by decide) : CE X (.Call (.Name x p) [] [] pos) (eCall0 F) := by
  obtain ⟨f, fd, a, b, c, d, _⟩ := h.ex
  exact ce_call0 a (st.hr.mono hjk) st.hg hg b c d hdb
/-- the block of a comprehension -/
theorem Std.blk (st : Std X k) {scope : Scope} {s : Shared} {H : Hp} {C : Addr} {cl : List (Str × Addr)} {fp : List Addr} : Std (cxB X scope s H C cl fp) k := ⟨st.hr, st.hc, st.hN, st.hg⟩
theorem bt_len : bootBuiltins "len" = some (.builtin "len") := by decide +kernel
theorem bt_abs : bootBuiltins "abs" = some (.builtin "abs") := by decide +kernel
theorem bt_min : bootBuiltins "min" = some (.builtin "min") := by decide +kernel
theorem bt_max : bootBuiltins "max" = some (.builtin "max") := by decide +kernel
theorem bt_all : bootBuiltins "all" = some (.builtin "all") := by decide +kernel
theorem bt_any : bootBuiltins "any" = some (.builtin "any") := by decide +kernel
theorem bt_repr : bootBuiltins "repr" = some (.builtin "repr") := by decide +kernel
theorem bt_sorted : bootBuiltins "sorted" = some (.builtin "sorted") := by decide +kernel
theorem bt_int : bootBuiltins "int" = some (.type "int") := by decide +kernel
theorem bt_tuple : bootBuiltins "tuple" = some (.type "tuple") := by decide +kernel
theorem bt_list : bootBuiltins "list" = some (.type "list") := by decide +kernel
theorem bt_str : bootBuiltins "str" = some (.type "str") := by decide +kernel
theorem bt_dict : bootBuiltins "dict" = some (.type "dict") := by decide +kernel
end
/-- the law's promise -/
theorem law_sp {U : Wd} {F : Fn} {n : Nat} (h : ∀ ns : List Int, ns.length ≤ n → ∃ S, F [.arg ns] Sto.nil = .ok (.bl true) S) (H : Hp) (a : Addr) (ns : List Int) (hl : ns.length ≤ n) (hS : SqL U.K H a (ns.map V.int)) : spV U 1 F [.ref a] H (fun v _ => v = .bl true) fun _ _ _ => False := by
  obtain ⟨S, e⟩ := h ns hl
  refine ⟨rfl, ⟨0, fun _ => 0, fun _ => False⟩, Sto.nil, [.arg ns], relS_nil rfl (fun a z => z.elim), ⟨.ref a, [], rfl, ⟨a, rfl, ?_⟩, rfl⟩, ?_⟩
  · rcases hS with hS | hS
    · exact .inl ⟨hS, fun i hi => absurd hi (Nat.not_lt_zero i), fun z => z⟩
    · exact .inr hS
  · rw [e]
    exact fun G' v H' _ _ q => q
/-- what walkG asks -/
theorem law_end {P : Program} {w : World} {K : PySem.W.Frag} {mg : Str → Option Value} {h : Heap} {k n : Nat} {fa : Addr} {x : Str} {F : Fn} (KX : K.In h) (hx : mg x = some (.ref fa)) (hF : ∀ base, Fs P w K mg base k x ["script"] F) (law : ∀ ns : List Int, ns.length ≤ n → ∃ S, F [.arg ns] Sto.nil = .ok (.bl true) S) :
    ∃ (fd : FuncData) (sp : Sp), K.In h ∧ (∀ (s : Shared) (u : Value), K.In s.heap → BindsTo s fd ⟨[u], []⟩ [("script", u)]) ∧ (∀ (H : Hp) (a : Addr) (ns : List Int), ns.length ≤ n → Only H → SqL K H a (ns.map V.int) → sp [.ref a] H (fun v _ => v = .bl true) fun _ _ _ => False) ∧ ∀ base : Heap, K.In base → base.Ns mainGlobals mg → FnG P w K mg base (L2.CX P w) k fa fd ["script"] sp := by
  obtain ⟨f, fd, a, b, c, d, oc, od, osl, lk⟩ := (hF h).ex
  have ef := b.symm.trans hx
  cases ef
  refine ⟨fd, spV ⟨P, w, K, mg⟩ 1 F, KX, fun s u ks => ?_, fun H a ns hl _ hS => law_sp (U := ⟨P, w, K, mg⟩) law H a ns hl hS, fun base _ _ => ?_⟩
  · have z := d s [u] ks rfl
    rw [List.append_nil] at z
    exact z
  · obtain ⟨f2, fd2, a2, b2, c2, d2, oc2, od2, osl2, lk2⟩ := (hF base).ex
    have ef := b2.symm.trans hx
    cases ef
    rw [lk] at lk2
    cases lk2
    exact a2
end Z

/-! ZP: the mirrors worked out: what serves every law. -/
namespace Z
open PySem PySem.Spec PyProof PyProof.Rows L2
theorem fits_0 : fits 0 = true := rfl
theorem fits_1 : fits 1 = true := rfl
theorem fits_2 : fits 2 = true := rfl
theorem fits_3 : fits 3 = true := rfl
theorem fits_4 : fits 4 = true := rfl
theorem fnA_ok {F : Fn} {ds : List D} {S S1 : Sto} {d : D} (h : nrfs ds = true) (e : F ds Sto.nil = .ok d S1) (hd : nrf d = true) : fnA F ds S = .ok d S := by
  unfold fnA
  rw [if_pos h, e]
  dsimp only
  rw [if_pos hd, if_pos hd]
/-- the result with what it names filled in -/
theorem fnA_fz {F : Fn} {ds : List D} {S S1 : Sto} {d d' : D} (h : nrfs ds = true) (e : F ds Sto.nil = .ok d S1) (h1 : nrf d = false) (h2 : fz 6 S1 d = d') (hd : nrf d' = true) : fnA F ds S = .ok d' S := by
  unfold fnA
  rw [if_pos h, e]
  dsimp only
  rw [h1, if_neg (show ¬ (false = true) from Bool.false_ne_true), h2, if_pos hd]
theorem lcS_fm {turn : D → Sto → R (Option D)} {S : Sto} {f : D → Option D} : ∀ {ds : List D}, (∀ d ∈ ds, turn d S = .ok (f d) S) → lcS turn ds S = .ok (ds.filterMap f) S
  | [], _ => rfl
  | d :: ds, h => by
    unfold lcS
    rw [h d List.mem_cons_self]
    have ih := lcS_fm (turn := turn) (S := S) (f := f) (ds := ds) fun e he => h e (List.mem_cons_of_mem _ he)
    cases e : f d with
    | none => dsimp only; rw [ih, List.filterMap_cons_none e]
    | some y => dsimp only; rw [ih, List.filterMap_cons_some e]
/-- a whole number that is no truth -/
def isI : D → Bool
  | .int _ => true
  | _ => false
def isC : D → Bool
  | .int i => decide (0 ≤ i)
  | _ => false
/-- what may come as any value -/
def val (d : D) : Bool := nrf d && shp 50 d
theorem val_nrf {d : D} (h : val d = true) : nrf d = true := (Bool.and_eq_true_iff.mp h).1
theorem val_shp {d : D} (h : val d = true) : shp 50 d = true := (Bool.and_eq_true_iff.mp h).2
theorem rd_val {S : Sto} {d : D} (h : nrf d = true) : rd S d = d := by
  cases d <;> first | rfl | (simp [nrf] at h)
theorem tyB_val {t : Tyn} {d : D} (h : val d = true) : ∃ b, tyB t d = some b := by
  cases d <;> first | exact ⟨_, rfl⟩ | (have := val_shp h; simp [shp] at this)
theorem z_gt {i j : Int} {S : Sto} : oCmp .Gt (.int i) (.int j) S = .ok (.bl (decide (j < i))) S := by
  show R.ok (D.bl (opz .Gt (cmpI i j))) S = _
  congr 2
  unfold cmpI
  by_cases h : i < j
  · rw [if_pos h]; exact (decide_eq_false (by omega)).symm
  · rw [if_neg h]
    by_cases k : j < i
    · rw [if_pos k]; exact (decide_eq_true k).symm
    · rw [if_neg k]; exact (decide_eq_false k).symm
theorem z_lt {i j : Int} {S : Sto} : oCmp .Lt (.int i) (.int j) S = .ok (.bl (decide (i < j))) S := by
  show R.ok (D.bl (opz .Lt (cmpI i j))) S = _
  congr 2
  unfold cmpI
  by_cases h : i < j
  · rw [if_pos h]; exact (decide_eq_true h).symm
  · rw [if_neg h]
    by_cases k : j < i
    · rw [if_pos k]; exact (decide_eq_false h).symm
    · rw [if_neg k]; exact (decide_eq_false h).symm
theorem z_ge {i j : Int} {S : Sto} : oCmp .GtE (.int i) (.int j) S = .ok (.bl (decide (j ≤ i))) S := by
  show R.ok (D.bl (opz .GtE (cmpI i j))) S = _
  congr 2
  unfold cmpI
  by_cases h : i < j
  · rw [if_pos h]; exact (decide_eq_false (by omega)).symm
  · rw [if_neg h]
    by_cases k : j < i
    · rw [if_pos k]; exact (decide_eq_true (by omega)).symm
    · rw [if_neg k]; exact (decide_eq_true (by omega)).symm
theorem z_le {i j : Int} {S : Sto} : oCmp .LtE (.int i) (.int j) S = .ok (.bl (decide (i ≤ j))) S := by
  show R.ok (D.bl (opz .LtE (cmpI i j))) S = _
  congr 2
  unfold cmpI
  by_cases h : i < j
  · rw [if_pos h]; exact (decide_eq_true (by omega)).symm
  · rw [if_neg h]
    by_cases k : j < i
    · rw [if_pos k]; exact (decide_eq_false (by omega)).symm
    · rw [if_neg k]; exact (decide_eq_true (by omega)).symm
theorem z_eqi {i j : Int} {S : Sto} : oEq (.int i) (.int j) S = .ok (.bl (decide (i = j))) S := rfl
theorem z_nei {i j : Int} {S : Sto} : oNe (.int i) (.int j) S = .ok (.bl (!decide (i = j))) S := rfl
theorem z_eqs {i j : List Nat} {S : Sto} : oEq (.str i) (.str j) S = .ok (.bl (decide (i = j))) S := rfl
theorem z_nes {i j : List Nat} {S : Sto} : oNe (.str i) (.str j) S = .ok (.bl (!decide (i = j))) S := rfl
theorem atI_nat {α : Type} {l : List α} {i : Int} {a : α} (h0 : 0 ≤ i) (h : l[i.toNat]? = some a) : atI l i = some a := by
  have hl := (List.getElem?_eq_some_iff.mp h).1
  unfold atI ixN
  rw [if_pos h0, if_pos (by omega)]
  exact h
theorem z_ixT {ds : List D} {i : Int} {d : D} {S : Sto} (h0 : 0 ≤ i) (h : ds[i.toNat]? = some d) : oIx (.tup ds) (.int i) S = .ok d S := by
  show (match atI ds i with | some d => R.ok d S | none => .bad) = _
  rw [atI_nat h0 h]
theorem z_ixL {ds : List D} {i : Int} {d : D} {S : Sto} (h0 : 0 ≤ i) (h : ds[i.toNat]? = some d) : oIx (.lst ds) (.int i) S = .ok d S := by
  show (match atI ds i with | some d => R.ok d S | none => .bad) = _
  rw [atI_nat h0 h]
theorem z_t0 {a : D} {r : List D} {S : Sto} : oIx (.tup (a :: r)) (.int 0) S = .ok a S := z_ixT (Int.le_refl _) rfl
theorem z_t1 {a b : D} {r : List D} {S : Sto} : oIx (.tup (a :: b :: r)) (.int 1) S = .ok b S := z_ixT (by decide) rfl
theorem z_t2 {a b c : D} {r : List D} {S : Sto} : oIx (.tup (a :: b :: c :: r)) (.int 2) S = .ok c S := z_ixT (by decide) rfl
theorem z_l0 {a : D} {r : List D} {S : Sto} : oIx (.lst (a :: r)) (.int 0) S = .ok a S := z_ixL (Int.le_refl _) rfl
theorem z_l1 {a b : D} {r : List D} {S : Sto} : oIx (.lst (a :: b :: r)) (.int 1) S = .ok b S := z_ixL (by decide) rfl
theorem z_inT {a : D} {ds : List D} {S : Sto} (ha : nrf a = true) (h1 : shp 60 a = true) (h2 : shp 60 (.tup ds) = true) : oIn a (.tup ds) S = .ok (.bl (ds.any fun z => eqv z a)) S := by
  have e : inD a (.tup ds) S = some (ds.any fun z => eqv z a) := by
    show (if shp 60 (rd S a) = true ∧ shp 60 (.tup ds) = true then some (ds.any fun z => eqv z (rd S a)) else none) = _
    rw [rd_val ha, if_pos ⟨h1, h2⟩]
  unfold oIn
  rw [e]
theorem z_inL {a : D} {ds : List D} {S : Sto} (ha : nrf a = true) (h1 : shp 60 a = true) (h2 : shp 60 (.lst ds) = true) : oIn a (.lst ds) S = .ok (.bl (ds.any fun z => eqv z a)) S := by
  have e : inD a (.lst ds) S = some (ds.any fun z => eqv z a) := by
    show (if shp 60 (rd S a) = true ∧ shp 60 (.lst ds) = true then some (ds.any fun z => eqv z (rd S a)) else none) = _
    rw [rd_val ha, if_pos ⟨h1, h2⟩]
  unfold oIn
  rw [e]
theorem z_notInT {a : D} {ds : List D} {S : Sto} (ha : nrf a = true) (h1 : shp 60 a = true) (h2 : shp 60 (.tup ds) = true) : oNotIn a (.tup ds) S = .ok (.bl (!(ds.any fun z => eqv z a))) S := by
  have e : inD a (.tup ds) S = some (ds.any fun z => eqv z a) := by
    show (if shp 60 (rd S a) = true ∧ shp 60 (.tup ds) = true then some (ds.any fun z => eqv z (rd S a)) else none) = _
    rw [rd_val ha, if_pos ⟨h1, h2⟩]
  unfold oNotIn
  rw [e]
theorem z_notInL {a : D} {ds : List D} {S : Sto} (ha : nrf a = true) (h1 : shp 60 a = true) (h2 : shp 60 (.lst ds) = true) : oNotIn a (.lst ds) S = .ok (.bl (!(ds.any fun z => eqv z a))) S := by
  have e : inD a (.lst ds) S = some (ds.any fun z => eqv z a) := by
    show (if shp 60 (rd S a) = true ∧ shp 60 (.lst ds) = true then some (ds.any fun z => eqv z (rd S a)) else none) = _
    rw [rd_val ha, if_pos ⟨h1, h2⟩]
  unfold oNotIn
  rw [e]
/-! shapes are kept by more depth -/
mutual
theorem shp_mono : ∀ (d : D) {m n : Nat}, m ≤ n → shp m d = true → shp n d = true
  | .non, _, _, _, _ => rfl
  | .bl _, _, _, _, _ => rfl
  | .int _, _, _, _, _ => rfl
  | .str _, _, _, _, h => by simpa [shp] using h
  | .tup ds, m, n, l, h => by rw [shp]; exact shps_mono ds l (by simpa [shp] using h)
  | .lst ds, m, n, l, h => by rw [shp]; exact shps_mono ds l (by simpa [shp] using h)
  | .dct _ _, _, _, _, h => by simp [shp] at h
  | .dcn _ _, _, _, _, h => by simp [shp] at h
  | .ref _, _, _, _, h => by simp [shp] at h
  | .arg _, _, _, _, h => by simp [shp] at h
theorem shps_mono : ∀ (ds : List D) {m n : Nat}, m ≤ n → shps m ds = true → shps n ds = true
  | ds, 0, _, _, h => by simp [shps] at h
  | [], m + 1, 0, l, _ => by omega
  | [], m + 1, n + 1, _, _ => by simp [shps]
  | d :: ds, m + 1, 0, l, _ => by omega
  | d :: ds, m + 1, n + 1, l, h => by
    have h : (shp m d && shps (m + 1) ds) = true := by simpa [shps] using h
    obtain ⟨h1, h2⟩ := Bool.and_eq_true_iff.mp h
    rw [shps, shp_mono d (by omega) h1, shps_mono ds l h2]; rfl
end
theorem val_60 {d : D} (h : val d = true) : shp 60 d = true := shp_mono d (by decide) (val_shp h)
theorem eqv_strs {a b : List Nat} : eqv (.str a) (.str b) = decide (a = b) := by simp [eqv]
theorem eqv_ints {a b : Int} : eqv (.int a) (.int b) = decide (a = b) := by simp [eqv]
theorem cut_from {α : Type} {l : List α} {k : Nat} (h : k ≤ l.length) : cut l (some k) none = l.drop k := by
  unfold cut
  have e1 : HT.sIx l.length 0 (some (k : Int)) = k := by rw [HT.sIx_nat]; omega
  have e2 : HT.sIx l.length l.length none = l.length := by unfold HT.sIx; rfl
  rw [e1, e2]
  rw [List.take_of_length_le (by rw [List.length_drop]; omega)]
theorem cut_to {α : Type} {l : List α} {k : Nat} (h : k ≤ l.length) : cut l none (some k) = l.take k := by
  unfold cut
  have e1 : HT.sIx l.length l.length (some (k : Int)) = k := by rw [HT.sIx_nat]; omega
  have e2 : HT.sIx l.length 0 none = 0 := by unfold HT.sIx; rfl
  rw [e1, e2]
  simp
theorem z_sl1 {a : D} {r : List D} {S : Sto} : oSl (.tup (a :: r)) (some 1) none S = .ok (.tup r) S := by
  show R.ok (D.tup (cut (a :: r) (some ((1 : Nat) : Int)) none)) S = _
  rw [cut_from (by simp)]
  rfl
/-- a comprehension over values that stand still -/
theorem eLc_st {vs : List Nat} {mi : EI} {g : Tg} {t : T} {e : E} {ρ : Env} {S : Sto} {ds ys : List D} {f : D → Option D} (hi : mi ρ S = .ok (.st ds) S) (hf : ∀ d ∈ ds, lcT g t e (wipeE ρ vs) d S = .ok (f d) S) (hy : ds.filterMap f = ys) (hl : fits ys.length = true) : eLc vs mi g t e ρ S = .ok (.lst ys) S := by
  have e1 : lcRun (lcT g t e (wipeE ρ vs)) (.st ds) S = .ok ys S := by rw [← hy]; exact lcS_fm hf
  show ((mi ρ S).bind fun src S => _) = _
  rw [hi]
  show (match lcRun (lcT g t e (wipeE ρ vs)) (.st ds) S with | .ok ys S' => if fits ys.length = true then R.ok (D.lst ys) S' else .bad | _ => .bad) = _
  rw [e1]
  show (if fits ys.length = true then R.ok (D.lst ys) S else .bad) = _
  rw [if_pos hl]
theorem fits_of {n : Nat} (h : n ≤ 16777216) : fits n = true := Nat.ble_eq_true_of_le h
def blD (b : Bool) : D := .bl b
theorem shps_bls {n : Nat} : ∀ l : List Bool, shps (n + 1) (l.map D.bl) = true
  | [] => by simp [shps]
  | b :: l => by rw [List.map_cons, shps, shps_bls l]; simp [shp]
theorem any_bl (c : Bool) : ∀ l : List Bool, (l.map D.bl).any (fun z => eqv z (.bl c)) = l.any fun b => b == c
  | [] => rfl
  | b :: l => by rw [List.map_cons, List.any_cons, any_bl c l, List.any_cons]; simp [eqv]
/-! ### one step after another -/
theorem sq_nx {a b : C} {ρ ρ' : Env} {S S' : Sto} {r : RS} (h : a ρ S = .nx ρ' S') (k : b ρ' S' = r) : sSeq a b ρ S = r := by unfold sSeq; rw [h]; exact k
theorem sq_rt {a b : C} {ρ : Env} {S S' : Sto} {d : D} (h : a ρ S = .rt d S') : sSeq a b ρ S = .rt d S' := by unfold sSeq; rw [h]
theorem st_set {i : Nat} {m : E} {ρ : Env} {S S' : Sto} {d : D} (h : m ρ S = .ok d S') : sSet i m ρ S = .nx (ρ.set i (some d)) S' := by unfold sSet; rw [h]; rfl
theorem st_ret {m : E} {ρ : Env} {S S' : Sto} {d : D} (h : m ρ S = .ok d S') : sRet m ρ S = .rt d S' := by unfold sRet; rw [h]; rfl
theorem st_e {m : E} {ρ : Env} {S S' : Sto} {d : D} (h : m ρ S = .ok d S') : sE m ρ S = .nx ρ S' := by unfold sE; rw [h]; rfl
theorem st_ift {t : T} {a b : C} {ρ : Env} {S S' : Sto} {r : RS} (h : t ρ S = .ok true S') (k : a ρ S' = r) : sIf t a b ρ S = r := by unfold sIf; rw [h]; exact k
theorem st_iff {t : T} {a b : C} {ρ : Env} {S S' : Sto} {r : RS} (h : t ρ S = .ok false S') (k : b ρ S' = r) : sIf t a b ρ S = r := by unfold sIf; rw [h]; exact k
theorem st_nx {ρ : Env} {S : Sto} : sNx ρ S = .nx ρ S := rfl
theorem fn_rt {n N : Nat} {body : C} {ds : List D} {S S' : Sto} {d : D} (h : body (env0 n N ds) S = .rt d S') : fnS n N body ds S = .ok d S' := by unfold fnS; rw [h]
theorem fn_nx {n N : Nat} {body : C} {ds : List D} {S S' : Sto} {ρ : Env} (h : body (env0 n N ds) S = .nx ρ S') : fnS n N body ds S = .ok .non S' := by unfold fnS; rw [h]
theorem lcS_f {α : Type} {turn : D → Sto → R (Option D)} {S : Sto} {emb out : α → D} {p : α → Bool} : ∀ {xs : List α}, (∀ x ∈ xs, turn (emb x) S = .ok (if p x = true then some (out x) else none) S) → lcS turn (xs.map emb) S = .ok ((xs.filter p).map out) S
  | [], _ => rfl
  | x :: xs, h => by
    have ih := lcS_f (turn := turn) (S := S) (emb := emb) (out := out) (p := p) (xs := xs) fun e he => h e (List.mem_cons_of_mem _ he)
    rw [List.map_cons]
    unfold lcS
    rw [h x List.mem_cons_self]
    by_cases hp : p x = true
    · rw [if_pos hp, List.filter_cons_of_pos hp]
      dsimp only
      rw [ih]
      rfl
    · rw [if_neg hp, List.filter_cons_of_neg hp]
      exact ih
/-- [out x for x in xs if p x] -/
theorem eLc_f {α : Type} {vs : List Nat} {mi : EI} {g : Tg} {t : T} {e : E} {ρ : Env} {S : Sto} {emb out : α → D} (p : α → Bool) {xs : List α} (hi : mi ρ S = .ok (.st (xs.map emb)) S) (hf : ∀ x ∈ xs, lcT g t e (wipeE ρ vs) (emb x) S = .ok (if p x = true then some (out x) else none) S) (hl : xs.length ≤ 16777216) : eLc vs mi g t e ρ S = .ok (.lst ((xs.filter p).map out)) S := by
  have e1 : lcRun (lcT g t e (wipeE ρ vs)) (.st (xs.map emb)) S = .ok ((xs.filter p).map out) S := lcS_f hf
  show ((mi ρ S).bind fun src S => _) = _
  rw [hi]
  show (match lcRun (lcT g t e (wipeE ρ vs)) (.st (xs.map emb)) S with | .ok ys S' => if fits ys.length = true then R.ok (D.lst ys) S' else .bad | _ => .bad) = _
  rw [e1]
  show (if fits ((xs.filter p).map out).length = true then R.ok (D.lst ((xs.filter p).map out)) S else .bad) = _
  rw [if_pos (fits_of (by rw [List.length_map]; exact Nat.le_trans (List.length_filter_le _ _) hl))]
/-- [out x for x in xs] -/
theorem eLc_m {α : Type} {vs : List Nat} {mi : EI} {g : Tg} {t : T} {e : E} {ρ : Env} {S : Sto} {emb out : α → D} {xs : List α} (hi : mi ρ S = .ok (.st (xs.map emb)) S) (hf : ∀ x ∈ xs, lcT g t e (wipeE ρ vs) (emb x) S = .ok (some (out x)) S) (hl : xs.length ≤ 16777216) : eLc vs mi g t e ρ S = .ok (.lst (xs.map out)) S := by
  have z := eLc_f (vs := vs) (mi := mi) (g := g) (t := t) (e := e) (ρ := ρ) (S := S) (emb := emb) (out := out) (fun _ => true) hi (fun x hx => by rw [hf x hx]; rfl) hl
  rw [z, List.filter_eq_self.mpr fun _ _ => rfl]
theorem all_any : ∀ l : List Bool, (!(l.any fun b => b == false)) = l.all id
  | [] => rfl
  | b :: l => by rw [List.any_cons, List.all_cons, ← all_any l]; cases b <;> simp
theorem any_any : ∀ l : List Bool, (l.any fun b => b == true) = l.any id
  | [] => rfl
  | b :: l => by rw [List.any_cons, List.any_cons, ← any_any l]; cases b <;> simp
theorem irow_map : ∀ (n k : Nat), irow (k : Int) n = ((List.range' k n).map fun i : Nat => D.int i)
  | 0, _ => rfl
  | n + 1, k => by
    rw [List.range'_succ, List.map_cons]
    have := irow_map n (k + 1)
    rw [← this]
    rfl
theorem irow_0 (n : Nat) : irow 0 n = ((List.range n).map fun i : Nat => D.int i) := by
  have := irow_map n 0
  rw [List.range_eq_range']
  exact this
theorem small_nat {n : Nat} (h : n ≤ 16777216) : small n = true := decide_eq_true ⟨by omega, by omega⟩
theorem ite_ok {α : Type} {b : Bool} {x y : α} {S : Sto} : (if b = true then R.ok x S else R.ok y S) = R.ok (if b = true then x else y) S := by cases b <;> rfl
theorem forS_at {α : Type} {turn : D → C} {emb : α → D} (I : List α → Env → Sto → Prop) (whole : List α) (st : ∀ done x rest ρ S, done ++ x :: rest = whole → I done ρ S → ∃ ρ' S', turn (emb x) ρ S = .nx ρ' S' ∧ I (done ++ [x]) ρ' S') : ∀ (xs done : List α) (ρ : Env) (S : Sto), done ++ xs = whole → I done ρ S → ∃ ρ' S', forS turn (xs.map emb) ρ S = .nx ρ' S' ∧ I whole ρ' S'
  | [], done, ρ, S, e, h => ⟨ρ, S, rfl, by rw [List.append_nil] at e; rw [← e]; exact h⟩
  | x :: xs, done, ρ, S, e, h => by
    obtain ⟨ρ1, S1, e1, h1⟩ := st done x xs ρ S e h
    obtain ⟨ρ2, S2, e2, h2⟩ := forS_at I whole st xs (done ++ [x]) ρ1 S1 (by rw [List.append_assoc]; exact e) h1
    refine ⟨ρ2, S2, ?_, h2⟩
    rw [List.map_cons]
    unfold forS
    rw [e1]
    exact e2
/-- a loop that always goes on -/
theorem forS_inv {α : Type} {turn : D → C} {emb : α → D} (I : List α → Env → Sto → Prop) (whole : List α) (ρ : Env) (S : Sto) (st : ∀ done x rest ρ S, done ++ x :: rest = whole → I done ρ S → ∃ ρ' S', turn (emb x) ρ S = .nx ρ' S' ∧ I (done ++ [x]) ρ' S') (h : I [] ρ S) : ∃ ρ' S', forS turn (whole.map emb) ρ S = .nx ρ' S' ∧ I whole ρ' S' := forS_at I whole st whole [] ρ S rfl h
theorem st_for {mi : EI} {g : Tg} {body : C} {ρ : Env} {S : Sto} {ds : List D} {r : RS} (h : mi ρ S = .ok (.st ds) S) (k : forS (turnS g body) ds ρ S = r) : sFor mi g body ρ S = r := by
  unfold sFor
  rw [h]
  exact k
/-- the store with one list -/
abbrev st1 (l : List D) : Sto := ⟨1, [.lst l]⟩
theorem st1_get {l : List D} : (st1 l).get 0 = some (.lst l) := rfl
theorem st1_set {l l' : List D} : (st1 l).set 0 (.lst l') = st1 l' := rfl
theorem ext_1 {l f : List D} (h : l.length + f.length ≤ 16777216) : oExtend (.ref 0) [.lst f] (st1 l) = .ok .non (st1 (l ++ f)) := by
  show (if fits (l.length + f.length) = true then R.ok D.non (st1 (l ++ f)) else .bad) = _
  rw [if_pos (fits_of h)]
theorem app_1 {l : List D} {d : D} (h : l.length + 1 ≤ 16777216) : oAppend (.ref 0) [d] (st1 l) = .ok .non (st1 (l ++ [d])) := by
  show (if fits (l.length + 1) = true then R.ok D.non (st1 (l ++ [d])) else .bad) = _
  rw [if_pos (fits_of h)]
theorem sq_for {α : Type} {mi : EI} {g : Tg} {body b : C} {ρ : Env} {S : Sto} {r : RS} {emb : α → D} (I : List α → Env → Sto → Prop) (whole : List α) (h : mi ρ S = .ok (.st (whole.map emb)) S) (h0 : I [] ρ S) (st : ∀ done x rest ρ S, done ++ x :: rest = whole → I done ρ S → ∃ ρ' S', turnS g body (emb x) ρ S = .nx ρ' S' ∧ I (done ++ [x]) ρ' S') (k : ∀ ρ' S', I whole ρ' S' → b ρ' S' = r) : sSeq (sFor mi g body) b ρ S = r := by
  obtain ⟨ρ', S', e, h1⟩ := forS_inv (emb := emb) (turn := turnS g body) I whole ρ S st h0
  exact sq_nx (st_for h e) (k ρ' S' h1)
theorem z_or {b c : Bool} {S : Sto} : (if b = true then R.ok (D.bl true) S else R.ok (D.bl c) S) = R.ok (D.bl (b || c)) S := by cases b <;> rfl
theorem z_and {b c : Bool} {S : Sto} : (if b = true then R.ok (D.bl c) S else R.ok (D.bl false) S) = R.ok (D.bl (b && c)) S := by cases b <;> rfl
theorem t_or {b c : Bool} {S : Sto} : (if b = true then R.ok true S else R.ok c S) = R.ok (b || c) S := by cases b <;> rfl
theorem t_and {b c : Bool} {S : Sto} : (if b = true then R.ok c S else R.ok false S) = R.ok (b && c) S := by cases b <;> rfl
theorem z_same {α : Type} {b : Bool} {x : R α} : (if b = true then x else x) = x := by cases b <;> rfl
/-- a loop of checks: it goes on where all is well, and gives r back where something is not -/
theorem forS_chk {α : Type} {turn : D → C} {emb : α → D} (I : Env → Sto → Prop) (J : Sto → Prop) (p : α → Bool) (r : D) : ∀ (xs : List α) (ρ : Env) (S : Sto), (∀ x ∈ xs, ∀ ρ S, I ρ S → (p x = true → ∃ ρ' S', turn (emb x) ρ S = .nx ρ' S' ∧ I ρ' S') ∧ (p x = false → ∃ S', turn (emb x) ρ S = .rt r S' ∧ J S')) → I ρ S → (xs.all p = true → ∃ ρ' S', forS turn (xs.map emb) ρ S = .nx ρ' S' ∧ I ρ' S') ∧ (xs.all p = false → ∃ S', forS turn (xs.map emb) ρ S = .rt r S' ∧ J S')
  | [], ρ, S, _, h => ⟨fun _ => ⟨ρ, S, rfl, h⟩, fun e => by (cases e)⟩
  | x :: xs, ρ, S, st, h => by
    obtain ⟨a, b⟩ := st x List.mem_cons_self ρ S h
    rw [List.all_cons, List.map_cons]
    cases hp : p x with
    | false =>
      refine ⟨fun e => by simp at e, fun _ => ?_⟩
      obtain ⟨S', e, j⟩ := b hp
      refine ⟨S', ?_, j⟩
      unfold forS
      rw [e]
    | true =>
      obtain ⟨ρ1, S1, e1, h1⟩ := a hp
      obtain ⟨c, d⟩ := forS_chk I J p r xs ρ1 S1 (fun y hy => st y (List.mem_cons_of_mem _ hy)) h1
      have e2 : forS turn (emb x :: xs.map emb) ρ S = forS turn (xs.map emb) ρ1 S1 := by
        conv => lhs; unfold forS
        rw [e1]
      rw [e2]
      exact ⟨fun e => c (by simpa using e), fun e => d (by simpa using e)⟩
theorem sq_chk {α : Type} {mi : EI} {g : Tg} {body b : C} {ρ : Env} {S : Sto} {rr : RS} {emb : α → D} (I : Env → Sto → Prop) (J : Sto → Prop) (p : α → Bool) (r : D) (xs : List α) (h : mi ρ S = .ok (.st (xs.map emb)) S) (h0 : I ρ S) (st : ∀ x ∈ xs, ∀ ρ S, I ρ S → (p x = true → ∃ ρ' S', turnS g body (emb x) ρ S = .nx ρ' S' ∧ I ρ' S') ∧ (p x = false → ∃ S', turnS g body (emb x) ρ S = .rt r S' ∧ J S')) (k1 : xs.all p = true → ∀ ρ' S', I ρ' S' → b ρ' S' = rr) (k2 : xs.all p = false → ∀ S', J S' → RS.rt r S' = rr) : sSeq (sFor mi g body) b ρ S = rr := by
  obtain ⟨c, d⟩ := forS_chk (turn := turnS g body) (emb := emb) I J p r xs ρ S st h0
  cases hb : xs.all p with
  | true =>
    obtain ⟨ρ', S', e, i⟩ := c hb
    exact sq_nx (st_for h e) (k1 hb ρ' S' i)
  | false =>
    obtain ⟨S', e, j⟩ := d hb
    rw [← k2 hb S' j]
    exact sq_rt (st_for h e)
theorem pairs_zip {α : Type} (f : α → D) : ∀ (xs : List α) (ys : List D), pairs (xs.map f) ys = (xs.zip ys).map fun p => .tup [f p.1, p.2]
  | [], _ => rfl
  | _ :: _, [] => rfl
  | x :: xs, y :: ys => by
    rw [List.map_cons, List.zip_cons_cons, List.map_cons, ← pairs_zip f xs ys]
    rfl
theorem z_lenT {ds : List D} {S : Sto} : oLen [.tup ds] S = .ok (.int ds.length) S := rfl
theorem z_lenL {ds : List D} {S : Sto} : oLen [.lst ds] S = .ok (.int ds.length) S := rfl
theorem rd_str {ds : List Nat} {S : Sto} : rd S (.str ds) = .str ds := rfl
theorem rd_int {i : Int} {S : Sto} : rd S (.int i) = .int i := rfl
theorem rd_bl {i : Bool} {S : Sto} : rd S (.bl i) = .bl i := rfl
theorem rd_non {S : Sto} : rd S .non = .non := rfl
theorem shps_map {α : Type} {n : Nat} {f : α → D} : ∀ xs : List α, (∀ x ∈ xs, shp n (f x) = true) → shps (n + 1) (xs.map f) = true
  | [], _ => by simp [shps]
  | x :: xs, h => by rw [List.map_cons, shps, h x List.mem_cons_self, shps_map xs fun y hy => h y (List.mem_cons_of_mem _ hy)]; rfl
theorem nrfs_map {α : Type} {f : α → D} : ∀ xs : List α, (∀ x ∈ xs, nrf (f x) = true) → nrfs (xs.map f) = true
  | [], _ => rfl
  | x :: xs, h => by rw [List.map_cons, nrfs, h x List.mem_cons_self, nrfs_map xs fun y hy => h y (List.mem_cons_of_mem _ hy)]; rfl
def numL {α : Type} : Int → List α → List (Int × α)
  | _, [] => []
  | i, a :: l => (i, a) :: numL (i + 1) l
theorem numb_map {α : Type} (f : α → D) : ∀ (i : Int) (xs : List α), numb i (xs.map f) = (numL i xs).map fun q => .tup [.int q.1, f q.2]
  | _, [] => rfl
  | i, x :: xs => by rw [List.map_cons, numb, numb_map f (i + 1) xs]; rfl
theorem numL_len {α : Type} : ∀ (i : Int) (xs : List α), (numL i xs).length = xs.length
  | _, [] => rfl
  | i, x :: xs => by rw [numL, List.length_cons, numL_len (i + 1) xs]; rfl
theorem numL_mem {α : Type} {q : Int × α} : ∀ {i : Int} {xs : List α}, q ∈ numL i xs → q.2 ∈ xs
  | i, x :: xs, h => by
    rcases List.mem_cons.mp h with e | h
    · rw [e]; exact List.mem_cons_self
    · exact List.mem_cons_of_mem _ (numL_mem h)
/-- the store with two lists -/
abbrev st2 (a b : List D) : Sto := ⟨2, [.lst b, .lst a]⟩
theorem st2_pop {a b : List D} {d : D} : oPop (.ref 1) [] (st2 a (b ++ [d])) = .ok d (st2 a b) := by
  show (match (b ++ [d])[(b ++ [d]).length - 1]? with | some e => R.ok e (st2 a (b ++ [d]).dropLast) | none => .bad) = _
  simp
theorem st2_app {a b : List D} {d : D} (h : a.length + 1 ≤ 16777216) : oAppend (.ref 0) [d] (st2 a b) = .ok .non (st2 (a ++ [d]) b) := by
  show (if fits (a.length + 1) = true then R.ok D.non (st2 (a ++ [d]) b) else .bad) = _
  rw [if_pos (fits_of h)]
theorem st2_ext {a b f : List D} (h : b.length + f.length ≤ 16777216) : oExtend (.ref 1) [.lst f] (st2 a b) = .ok .non (st2 a (b ++ f)) := by
  show (if fits (b.length + f.length) = true then R.ok D.non (st2 a (b ++ f)) else .bad) = _
  rw [if_pos (fits_of h)]
theorem st2_ne {a b : List D} (h : shps 60 b = true) : oNe (.ref 1) (.lst []) (st2 a b) = .ok (.bl (!b.isEmpty)) (st2 a b) := by
  show (if shp 60 (.lst b) = true ∧ shp 60 (.lst []) = true then R.ok (D.bl (!eqv (.lst b) (.lst []))) (st2 a b) else .bad) = _
  rw [if_pos ⟨by rw [shp]; exact h, rfl⟩]
  cases b <;> rfl
theorem while_t {t : T} {b : C} {k : Nat} {ρ ρ' : Env} {S S1 S' : Sto} (h : t ρ S = .ok true S1) (h2 : b ρ S1 = .nx ρ' S') : whileS t b (k + 1) ρ S = whileS t b k ρ' S' := by
  conv => lhs; unfold whileS
  rw [h]
  show (match b ρ S1 with | .nx ρ' S' => whileS t b k ρ' S' | .ct ρ' S' => whileS t b k ρ' S' | .bk ρ' S' => RS.nx ρ' S' | .rt d S' => RS.rt d S' | .ex x ρ' S' => RS.ex x ρ' S' | .bad => RS.bad) = _
  rw [h2]
theorem while_f {t : T} {b : C} {k : Nat} {ρ : Env} {S S1 : Sto} (h : t ρ S = .ok false S1) : whileS t b (k + 1) ρ S = .nx ρ S1 := by
  unfold whileS
  rw [h]
  rfl
theorem z_addT {ds es : List D} {S : Sto} (h : ds.length + es.length ≤ 16777216) : oAdd (.tup ds) (.tup es) S = .ok (.tup (ds ++ es)) S := by
  show (if fits (ds.length + es.length) = true then R.ok (D.tup (ds ++ es)) S else .bad) = _
  rw [if_pos (fits_of h)]
theorem z_addL {ds es : List D} {S : Sto} (h : ds.length + es.length ≤ 16777216) : oAdd (.lst ds) (.lst es) S = .ok (.lst (ds ++ es)) S := by
  show (if fits (ds.length + es.length) = true then R.ok (D.lst (ds ++ es)) S else .bad) = _
  rw [if_pos (fits_of h)]
theorem z_addI {i j : Int} {S : Sto} : oAdd (.int i) (.int j) S = .ok (.int (i + j)) S := rfl
theorem z_subI {i j : Int} {S : Sto} : oSub (.int i) (.int j) S = .ok (.int (i - j)) S := rfl
theorem z_slF {l : List D} {k : Nat} {S : Sto} (h : k ≤ l.length) : oSl (.lst l) (some (k : Int)) none S = .ok (.lst (l.drop k)) S := by
  show R.ok (D.lst (cut l (some (k : Int)) none)) S = _
  rw [cut_from h]
theorem z_slT {l : List D} {k : Nat} {S : Sto} (h : k ≤ l.length) : oSl (.lst l) none (some (k : Int)) S = .ok (.lst (l.take k)) S := by
  show R.ok (D.lst (cut l none (some (k : Int)))) S = _
  rw [cut_to h]
theorem z_slFt {l : List D} {k : Nat} {S : Sto} (h : k ≤ l.length) : oSl (.tup l) (some (k : Int)) none S = .ok (.tup (l.drop k)) S := by
  show R.ok (D.tup (cut l (some (k : Int)) none)) S = _
  rw [cut_from h]
theorem z_slTt {l : List D} {k : Nat} {S : Sto} (h : k ≤ l.length) : oSl (.tup l) none (some (k : Int)) S = .ok (.tup (l.take k)) S := by
  show R.ok (D.tup (cut l none (some (k : Int)))) S = _
  rw [cut_to h]
theorem blsOf_map : ∀ l : List Bool, blsOf (l.map D.bl) = some l
  | [] => rfl
  | b :: l => by rw [List.map_cons, blsOf, blsOf_map l]
theorem z_all {l : List Bool} {S : Sto} : oAll [.lst (l.map D.bl)] S = .ok (.bl (l.all id)) S := by
  show (match blsOf (l.map D.bl) with | some bs => R.ok (D.bl (bs.all id)) S | none => .bad) = _
  rw [blsOf_map]
theorem z_any {l : List Bool} {S : Sto} : oAny [.lst (l.map D.bl)] S = .ok (.bl (l.any id)) S := by
  show (match blsOf (l.map D.bl) with | some bs => R.ok (D.bl (bs.any id)) S | none => .bad) = _
  rw [blsOf_map]
theorem forS_c {turn : D → C} {d : D} {ds : List D} {ρ ρ' : Env} {S S' : Sto} {r : RS} (h : turn d ρ S = .nx ρ' S') (k : forS turn ds ρ' S' = r) : forS turn (d :: ds) ρ S = r := by
  unfold forS
  rw [h]
  exact k
theorem forS_r {turn : D → C} {d e : D} {ds : List D} {ρ : Env} {S S' : Sto} (h : turn d ρ S = .rt e S') : forS turn (d :: ds) ρ S = .rt e S' := by
  unfold forS
  rw [h]
theorem forS_e {turn : D → C} {ρ : Env} {S : Sto} : forS turn [] ρ S = .nx ρ S := rfl
theorem eLc_e {α : Type} {vs : List Nat} {mi : EI} {g : Tg} {t : T} {e : E} {ρ : Env} {S : Sto} {emb : α → D} {out : α → D} (p : α → Bool) {xs : List α} {ys : List D} (hi : mi ρ S = .ok (.st (xs.map emb)) S) (hf : ∀ x ∈ xs, lcT g t e (wipeE ρ vs) (emb x) S = .ok (if p x = true then some (out x) else none) S) (hl : xs.length ≤ 16777216) (hy : (xs.filter p).map out = ys) : eLc vs mi g t e ρ S = .ok (.lst ys) S := by rw [eLc_f p hi hf hl, hy]
theorem numL_range {α : Type} (f : Nat → α) (p : Nat → Bool) : ∀ (n k : Nat), ((numL (k : Int) ((List.range' k n).map f)).filter fun q => p q.1.toNat).map (fun q => D.int q.1) = ((List.range' k n).filter p).map fun i : Nat => D.int i
  | 0, _ => rfl
  | n + 1, k => by
    have ih := numL_range f p n (k + 1)
    rw [List.range'_succ, List.map_cons, numL]
    have e : ((k : Int) + 1) = ((k + 1 : Nat) : Int) := by omega
    rw [e]
    by_cases h : p k = true
    · rw [List.filter_cons_of_pos (by simpa using h), List.filter_cons_of_pos h, List.map_cons, List.map_cons, ih]
    · rw [List.filter_cons_of_neg (by simpa using h), List.filter_cons_of_neg h, ih]
theorem numL_rangeM {α : Type} {f : Nat → α} : ∀ (n k : Nat) {q : Int × α}, q ∈ numL (k : Int) ((List.range' k n).map f) → ∃ c : Nat, q = ((c : Int), f c) ∧ c < k + n
  | n + 1, k, q, h => by
    rw [List.range'_succ, List.map_cons, numL] at h
    have e : ((k : Int) + 1) = ((k + 1 : Nat) : Int) := by omega
    rw [e] at h
    rcases List.mem_cons.mp h with h | h
    · exact ⟨k, h, by omega⟩
    · obtain ⟨c, h1, h2⟩ := numL_rangeM n (k + 1) h
      exact ⟨c, h1, by omega⟩
end Z

/-! ZB: the laws' bag: what is drawn. -/
namespace Z
open PySem PySem.Spec PyProof PyProof.Rows L2
/-- a store with a bag in front -/
def Bg (S : Sto) : Prop := S.Wf ∧ ∃ b : Bag, S.get 0 = some (.bag b) ∧ b.l.length ≤ 1000
/-- what stands behind the bag stays -/
def Nxt (S S' : Sto) : Prop := Bg S' ∧ S.len ≤ S'.len ∧ ∀ i, i < S.len → i ≠ 0 → S'.get i = S.get i
theorem Nxt.refl {S : Sto} (h : Bg S) : Nxt S S := ⟨h, Nat.le_refl _, fun _ _ _ => rfl⟩
theorem Nxt.trans {S S1 S2 : Sto} (a : Nxt S S1) (b : Nxt S1 S2) : Nxt S S2 := ⟨b.1, Nat.le_trans a.2.1 b.2.1, fun i h n => (b.2.2 i (Nat.lt_of_lt_of_le h a.2.1) n).trans (a.2.2 i h n)⟩
theorem Bg.pos {S : Sto} (h : Bg S) : 0 < S.len := let ⟨_, _, e, _⟩ := h; Sto.get_lt e
theorem Nxt.push {S : Sto} {o : O} (h : Bg S) : Nxt S (S.push o) := by
  obtain ⟨w, b, e, l⟩ := h
  have h0 : 0 < S.len := Sto.get_lt e
  refine ⟨⟨w.push, b, ?_, l⟩, Nat.le_succ _, fun i hi _ => Sto.get_push_lt hi⟩
  rw [Sto.get_push_lt h0]; exact e
theorem Nxt.set {S : Sto} {n : Nat} {o : O} (h : Bg S) (hn : n ≠ 0) : Bg (S.set n o) ∧ (S.set n o).len = S.len ∧ ∀ i, i ≠ n → (S.set n o).get i = S.get i := by
  obtain ⟨w, b, e, l⟩ := h
  refine ⟨⟨w.set, b, ?_, l⟩, Sto.set_len, fun i hi => Sto.get_set_ne hi⟩
  rw [Sto.get_set_ne (fun q => hn q.symm)]; exact e
theorem set_set {S : Sto} {n : Nat} {a b : O} : (S.set n a).set n b = S.set n b := by
  unfold Sto.set
  by_cases h : n < S.len
  · simp only [if_pos h, List.set_set]
  · simp only [if_neg h]
theorem set_same {S : Sto} {n : Nat} {a : O} (h : S.get n = some a) : S.set n a = S := by
  have hn := Sto.get_lt h
  unfold Sto.set Sto.get at *
  rw [if_pos hn] at h ⊢
  obtain ⟨hl, he⟩ := List.getElem?_eq_some_iff.mp h
  congr 1
  rw [← he]
  exact List.set_getElem_self hl
def m_take : C := (sSeq (sIf (toB (eOp oEq (eOp oIx (eVar 0) (eC (.int 0))) (eC (.int 0)))) (sSeq (sSet 4 (eOp oIx (eOp oAdd (eSl (eOp oIx (eVar 0) (eC (.int 3))) (pSome (eOp oIx (eVar 0) (eC (.int 2)))) pNone) (eLst (aCons (eC (.int 0)) aNil))) (eC (.int 0)))) (sSeq (sAugS (eVar 0) (eC (.int 2)) (eC (.int 1)) oAddI) (sSeq (sIf (toB (eOp (oCmp .GtE) (eVar 4) (eOp oPow (eC (.int 10)) (eC (.int 18))))) (sPut (eVar 4) (eVar 0) (eC (.int 0))) sNx) (sSeq (sSet 5 (eOp oAdd (eOp oAdd (eOp oMul (eOp oIx (eVar 0) (eC (.int 1))) (eC (.int 48271))) (eOp oMod (eB oInt (aCons (eVar 4) aNil)) (eC (.int 2147483647)))) (eOp oMul (eC (.int 7919)) (eOp oIx (eVar 0) (eC (.int 2)))))) (sPut (eOp oMod (eB oInt (aCons (eVar 5) aNil)) (eC (.int 2147483647))) (eVar 0) (eC (.int 1))))))) sNx) (sSeq (sIf (toB (eOp (oCmp .Gt) (eOp oIx (eVar 0) (eC (.int 0))) (eC (.int 0)))) (sSeq (sSet 6 (eOp oMod (eB oInt (aCons (eOp oIx (eVar 0) (eC (.int 0))) aNil)) (eVar 1))) (sSeq (sPut (eOp oDiv (eB oInt (aCons (eOp oIx (eVar 0) (eC (.int 0))) aNil)) (eVar 1)) (eVar 0) (eC (.int 0))) (sRet (eVar 6)))) sNx) (sSeq (sSet 2 (eOp oMod (eB oInt (aCons (eOp oMul (eOp oAdd (eOp oIx (eVar 0) (eC (.int 1))) (eC (.int 1))) (eC (.int 39373))) aNil)) (eC (.int 1000000007)))) (sSeq (sSet 3 (eOp oMod (eB oInt (aCons (eOp oMul (eOp oMod (eB oInt (aCons (eOp oMul (eVar 2) (eVar 2)) aNil)) (eC (.int 998244353))) (eC (.int 30011))) aNil)) (eC (.int 998244353)))) (sRet (eOp oMod (eB oInt (aCons (eOp oDiv (eVar 3) (eC (.int 7))) aNil)) (eVar 1)))))))
def f_take : Fn := fnS 2 7 m_take
theorem z_modI {i j : Int} {S : Sto} (h : 0 < j) : oMod (.int i) (.int j) S = .ok (.int (i % j)) S := by
  show (if decide (0 < j) = true then R.ok (D.int (i % j)) S else .bad) = _
  rw [if_pos (decide_eq_true h)]
theorem z_divI {i j : Int} {S : Sto} (h : 0 < j) (h2 : j < 1073741824) : oDiv (.int i) (.int j) S = .ok (.int (i / j)) S := by
  show (if divOk j = true then R.ok (D.int (i / j)) S else .bad) = _
  have : divOk j = true := by
    unfold divOk
    rw [decide_eq_true h, Bool.true_and]
    exact Nat.ble_eq_true_of_le (by omega)
  rw [if_pos this]
theorem z_mulI {i j : Int} {S : Sto} (h : lt64 j = true) : oMul (.int i) (.int j) S = .ok (.int (i * j)) S := by
  show (if (lt64 i || lt64 j) = true then R.ok (D.int (i * j)) S else .bad) = _
  rw [h, Bool.or_true, if_pos rfl]
theorem z_mulI2 {i j : Int} {S : Sto} (h : lt64 i = true) : oMul (.int i) (.int j) S = .ok (.int (i * j)) S := by
  show (if (lt64 i || lt64 j) = true then R.ok (D.int (i * j)) S else .bad) = _
  rw [h, Bool.true_or, if_pos rfl]
theorem lt64_of {i : Int} (h : 0 ≤ i) (h2 : i < 1000000007) : lt64 i = true := Nat.ble_eq_true_of_le (by omega)
theorem z_int {i : Int} {S : Sto} : oInt [.int i] S = .ok (.int i) S := rfl
theorem take_ok {S : Sto} {many : Int} (h : Bg S) (h0 : 0 < many) (h1 : many < 1073741824) : ∃ v S', f_take [.ref 0, .int many] S = .ok (.int v) S' ∧ 0 ≤ v ∧ v < many ∧ Nxt S S' := by
  obtain ⟨w, b0, e0, hl⟩ := h
  have hp : 0 < S.len := Sto.get_lt e0
  have eS : S = S.set 0 (.bag b0) := (set_same e0).symm
  have G : ∀ b : Bag, (S.set 0 (.bag b)).get 0 = some (.bag b) := fun b => Sto.get_set_self w hp
  have X0 : ∀ b : Bag, oIx (.ref 0) (.int 0) (S.set 0 (.bag b)) = .ok (.int b.a) (S.set 0 (.bag b)) := fun b => by unfold oIx rd; dsimp only; rw [G]; rfl
  have X1 : ∀ b : Bag, oIx (.ref 0) (.int 1) (S.set 0 (.bag b)) = .ok (.int b.b) (S.set 0 (.bag b)) := fun b => by unfold oIx rd; dsimp only; rw [G]; rfl
  have X2 : ∀ b : Bag, oIx (.ref 0) (.int 2) (S.set 0 (.bag b)) = .ok (.int b.c) (S.set 0 (.bag b)) := fun b => by unfold oIx rd; dsimp only; rw [G]; rfl
  have X3 : ∀ b : Bag, oIx (.ref 0) (.int 3) (S.set 0 (.bag b)) = .ok (.lst (b.l.map .int)) (S.set 0 (.bag b)) := fun b => by unfold oIx rd; dsimp only; rw [G]; rfl
  have Y2 : ∀ b : Bag, oGet (.ref 0) (.int 2) (S.set 0 (.bag b)) = .ok (.int b.c) (S.set 0 (.bag b)) := fun b => by unfold oGet rd; dsimp only; rw [G]; rfl
  have P0 : ∀ (b : Bag) x, oSet (.ref 0) (.int 0) (.int x) (S.set 0 (.bag b)) = some (S.set 0 (.bag { b with a := x })) := fun b x => by unfold oSet; dsimp only; rw [G]; dsimp only; unfold bagSet; dsimp only; rw [if_pos rfl]; dsimp only; rw [set_set]
  have P1 : ∀ (b : Bag) x, oSet (.ref 0) (.int 1) (.int x) (S.set 0 (.bag b)) = some (S.set 0 (.bag { b with b := x })) := fun b x => by unfold oSet; dsimp only; rw [G]; dsimp only; unfold bagSet; dsimp only; rw [if_neg (by decide), if_pos rfl]; dsimp only; rw [set_set]
  have P2 : ∀ (b : Bag) x, oSet (.ref 0) (.int 2) (.int x) (S.set 0 (.bag b)) = some (S.set 0 (.bag { b with c := x })) := fun b x => by unfold oSet; dsimp only; rw [G]; dsimp only; unfold bagSet; dsimp only; rw [if_neg (by decide), if_neg (by decide), if_pos rfl]; dsimp only; rw [set_set]
  have N : ∀ b : Bag, b.l.length ≤ 1000 → Nxt S (S.set 0 (.bag b)) := fun b hb => ⟨⟨w.set, b, G b, hb⟩, by rw [Sto.set_len]; exact Nat.le_refl _, fun i _ hi => Sto.get_set_ne hi⟩
  -- the first step
  have A : ∃ x4 x5 b, sIf (toB (eOp oEq (eOp oIx (eVar 0) (eC (.int 0))) (eC (.int 0)))) (sSeq (sSet 4 (eOp oIx (eOp oAdd (eSl (eOp oIx (eVar 0) (eC (.int 3))) (pSome (eOp oIx (eVar 0) (eC (.int 2)))) pNone) (eLst (aCons (eC (.int 0)) aNil))) (eC (.int 0)))) (sSeq (sAugS (eVar 0) (eC (.int 2)) (eC (.int 1)) oAddI) (sSeq (sIf (toB (eOp (oCmp .GtE) (eVar 4) (eOp oPow (eC (.int 10)) (eC (.int 18))))) (sPut (eVar 4) (eVar 0) (eC (.int 0))) sNx) (sSeq (sSet 5 (eOp oAdd (eOp oAdd (eOp oMul (eOp oIx (eVar 0) (eC (.int 1))) (eC (.int 48271))) (eOp oMod (eB oInt (aCons (eVar 4) aNil)) (eC (.int 2147483647)))) (eOp oMul (eC (.int 7919)) (eOp oIx (eVar 0) (eC (.int 2)))))) (sPut (eOp oMod (eB oInt (aCons (eVar 5) aNil)) (eC (.int 2147483647))) (eVar 0) (eC (.int 1))))))) sNx [some (.ref 0), some (.int many), none, none, none, none, none] (S.set 0 (.bag b0)) = .nx [some (.ref 0), some (.int many), none, none, x4, x5, none] (S.set 0 (.bag b)) ∧ b.l.length ≤ 1000 := by
    by_cases ha : b0.a = 0
    · obtain ⟨cell, hc⟩ : ∃ cell : Int, oIx (.lst ((cut b0.l (some b0.c) none).map D.int ++ [.int 0])) (.int 0) (S.set 0 (.bag b0)) = .ok (.int cell) (S.set 0 (.bag b0)) := by
        cases cut b0.l (some b0.c) none with
        | nil => exact ⟨0, z_l0⟩
        | cons x r => exact ⟨x, z_l0⟩
      have hcut : (cut (b0.l.map D.int) (some b0.c) none) = (cut b0.l (some b0.c) none).map .int := by
        unfold cut
        rw [List.length_map, List.map_take, List.map_drop]
      have hcl : (cut b0.l (some b0.c) none).length ≤ 1000 := by
        unfold cut
        have := List.length_take_le (HT.sIx b0.l.length b0.l.length none - HT.sIx b0.l.length 0 (some b0.c)) (b0.l.drop (HT.sIx b0.l.length 0 (some b0.c)))
        have := List.length_take_le' (HT.sIx b0.l.length b0.l.length none - HT.sIx b0.l.length 0 (some b0.c)) (b0.l.drop (HT.sIx b0.l.length 0 (some b0.c)))
        rw [List.length_drop] at this
        omega
      have hadd : oAdd (.lst ((cut b0.l (some b0.c) none).map D.int)) (.lst [.int 0]) (S.set 0 (.bag b0)) = .ok (.lst ((cut b0.l (some b0.c) none).map D.int ++ [.int 0])) (S.set 0 (.bag b0)) := z_addL (by simp; omega)
      have hsl : oSl (.lst (b0.l.map D.int)) (some b0.c) none (S.set 0 (.bag b0)) = .ok (.lst ((cut b0.l (some b0.c) none).map D.int)) (S.set 0 (.bag b0)) := by rw [← hcut]; rfl
      have hpow : ∀ S, oPow (.int 10) (.int 18) S = .ok (.int (10 ^ 18)) S := fun _ => rfl
      have fin : ∀ b : Bag, b.l.length ≤ 1000 → ∃ x4 x5 b', sSeq (sSet 5 (eOp oAdd (eOp oAdd (eOp oMul (eOp oIx (eVar 0) (eC (.int 1))) (eC (.int 48271))) (eOp oMod (eB oInt (aCons (eVar 4) aNil)) (eC (.int 2147483647)))) (eOp oMul (eC (.int 7919)) (eOp oIx (eVar 0) (eC (.int 2)))))) (sPut (eOp oMod (eB oInt (aCons (eVar 5) aNil)) (eC (.int 2147483647))) (eVar 0) (eC (.int 1))) [some (.ref 0), some (.int many), none, none, some (.int cell), none, none] (S.set 0 (.bag b)) = .nx [some (.ref 0), some (.int many), none, none, x4, x5, none] (S.set 0 (.bag b')) ∧ b'.l.length ≤ 1000 := fun b hb => by
        refine ⟨some (.int cell), some (.int (b.b * 48271 + cell % 2147483647 + 7919 * b.c)), { b with b := (b.b * 48271 + cell % 2147483647 + 7919 * b.c) % 2147483647 }, ?_, hb⟩
        simp only [fnS, env0, sSeq, sSet, sRet, sRetN, sIf, sE, sAsg, sPar, sNx, sPut, R.toS, R.bind, eVar, eC, eOp, eTup, eLst, eLstR, aCons, aNil, eIf, eAn, eOr, eNt, eIsi, toB, tNt, tAn, tOr_, tYs, eCall, eCall0, eB, eMt, eMt0, iSrc, iRg1, iRg2, iEn, iZp, gN, gT, gsCons, gsNil, turnS, List.map_cons, List.map_nil, List.length_cons, List.length_nil, List.replicate, List.cons_append, List.nil_append, List.getElem?_cons_zero, List.getElem?_cons_succ, List.set_cons_zero, List.set_cons_succ, Nat.sub_self, Nat.reduceSub, Nat.reduceAdd, if_true, Bool.false_eq_true, if_false, ite_true, ite_false, List.cons.injEq, and_false, false_and, true_and, and_true, decide_false, decide_true, Bool.not_true, Bool.not_false, Bool.true_and, Bool.false_and, Bool.and_true, Bool.and_false, Bool.or_false, Bool.or_true, Bool.false_or, Bool.true_or, Nat.reduceEqDiff, reduceCtorEq, eSl, pSome, pNone, lcT, wipeE, fits_0, fits_1, fits_2, fits_3, fits_4, sPut, X1, X2, P1, z_int, z_addI, z_mulI (show lt64 48271 = true from rfl), z_mulI2 (show lt64 7919 = true from rfl), z_modI (show (0 : Int) < 2147483647 by decide)]
      by_cases hg : (10 ^ 18 : Int) ≤ cell
      · obtain ⟨x4, x5, b', e, hb'⟩ := fin { b0 with c := b0.c + 1, a := cell } hl
        refine ⟨x4, x5, b', ?_, hb'⟩
        refine st_ift (S' := S.set 0 (.bag b0)) (by simp only [fnS, env0, sSeq, sSet, sRet, sRetN, sIf, sE, sAsg, sPar, sNx, sPut, R.toS, R.bind, eVar, eC, eOp, eTup, eLst, eLstR, aCons, aNil, eIf, eAn, eOr, eNt, eIsi, toB, tNt, tAn, tOr_, tYs, eCall, eCall0, eB, eMt, eMt0, iSrc, iRg1, iRg2, iEn, iZp, gN, gT, gsCons, gsNil, turnS, List.map_cons, List.map_nil, List.length_cons, List.length_nil, List.replicate, List.cons_append, List.nil_append, List.getElem?_cons_zero, List.getElem?_cons_succ, List.set_cons_zero, List.set_cons_succ, Nat.sub_self, Nat.reduceSub, Nat.reduceAdd, if_true, Bool.false_eq_true, if_false, ite_true, ite_false, List.cons.injEq, and_false, false_and, true_and, and_true, decide_false, decide_true, Bool.not_true, Bool.not_false, Bool.true_and, Bool.false_and, Bool.and_true, Bool.and_false, Bool.or_false, Bool.or_true, Bool.false_or, Bool.true_or, Nat.reduceEqDiff, reduceCtorEq, eSl, pSome, pNone, lcT, wipeE, fits_0, fits_1, fits_2, fits_3, fits_4, X0, z_eqi, ha]) ?_
        refine sq_nx (st_set (d := .int cell) (S' := S.set 0 (.bag b0)) (by simp only [fnS, env0, sSeq, sSet, sRet, sRetN, sIf, sE, sAsg, sPar, sNx, sPut, R.toS, R.bind, eVar, eC, eOp, eTup, eLst, eLstR, aCons, aNil, eIf, eAn, eOr, eNt, eIsi, toB, tNt, tAn, tOr_, tYs, eCall, eCall0, eB, eMt, eMt0, iSrc, iRg1, iRg2, iEn, iZp, gN, gT, gsCons, gsNil, turnS, List.map_cons, List.map_nil, List.length_cons, List.length_nil, List.replicate, List.cons_append, List.nil_append, List.getElem?_cons_zero, List.getElem?_cons_succ, List.set_cons_zero, List.set_cons_succ, Nat.sub_self, Nat.reduceSub, Nat.reduceAdd, if_true, Bool.false_eq_true, if_false, ite_true, ite_false, List.cons.injEq, and_false, false_and, true_and, and_true, decide_false, decide_true, Bool.not_true, Bool.not_false, Bool.true_and, Bool.false_and, Bool.and_true, Bool.and_false, Bool.or_false, Bool.or_true, Bool.false_or, Bool.true_or, Nat.reduceEqDiff, reduceCtorEq, eSl, pSome, pNone, lcT, wipeE, fits_0, fits_1, fits_2, fits_3, fits_4, X3, X2, hsl, hadd, hc, show fits 1 = true from rfl])) ?_
        refine sq_nx (ρ' := [some (.ref 0), some (.int many), none, none, some (.int cell), none, none]) (S' := S.set 0 (.bag { b0 with c := b0.c + 1 })) (by simp only [fnS, env0, sSeq, sSet, sRet, sRetN, sIf, sE, sAsg, sPar, sNx, sPut, R.toS, R.bind, eVar, eC, eOp, eTup, eLst, eLstR, aCons, aNil, eIf, eAn, eOr, eNt, eIsi, toB, tNt, tAn, tOr_, tYs, eCall, eCall0, eB, eMt, eMt0, iSrc, iRg1, iRg2, iEn, iZp, gN, gT, gsCons, gsNil, turnS, List.map_cons, List.map_nil, List.length_cons, List.length_nil, List.replicate, List.cons_append, List.nil_append, List.getElem?_cons_zero, List.getElem?_cons_succ, List.set_cons_zero, List.set_cons_succ, Nat.sub_self, Nat.reduceSub, Nat.reduceAdd, if_true, Bool.false_eq_true, if_false, ite_true, ite_false, List.cons.injEq, and_false, false_and, true_and, and_true, decide_false, decide_true, Bool.not_true, Bool.not_false, Bool.true_and, Bool.false_and, Bool.and_true, Bool.and_false, Bool.or_false, Bool.or_true, Bool.false_or, Bool.true_or, Nat.reduceEqDiff, reduceCtorEq, eSl, pSome, pNone, lcT, wipeE, fits_0, fits_1, fits_2, fits_3, fits_4, sAugS, Y2, oAddI, P2]) ?_
        refine sq_nx (ρ' := [some (.ref 0), some (.int many), none, none, some (.int cell), none, none]) (S' := S.set 0 (.bag { b0 with c := b0.c + 1, a := cell })) (st_ift (S' := S.set 0 (.bag { b0 with c := b0.c + 1 })) (by simp only [fnS, env0, sSeq, sSet, sRet, sRetN, sIf, sE, sAsg, sPar, sNx, sPut, R.toS, R.bind, eVar, eC, eOp, eTup, eLst, eLstR, aCons, aNil, eIf, eAn, eOr, eNt, eIsi, toB, tNt, tAn, tOr_, tYs, eCall, eCall0, eB, eMt, eMt0, iSrc, iRg1, iRg2, iEn, iZp, gN, gT, gsCons, gsNil, turnS, List.map_cons, List.map_nil, List.length_cons, List.length_nil, List.replicate, List.cons_append, List.nil_append, List.getElem?_cons_zero, List.getElem?_cons_succ, List.set_cons_zero, List.set_cons_succ, Nat.sub_self, Nat.reduceSub, Nat.reduceAdd, if_true, Bool.false_eq_true, if_false, ite_true, ite_false, List.cons.injEq, and_false, false_and, true_and, and_true, decide_false, decide_true, Bool.not_true, Bool.not_false, Bool.true_and, Bool.false_and, Bool.and_true, Bool.and_false, Bool.or_false, Bool.or_true, Bool.false_or, Bool.true_or, Nat.reduceEqDiff, reduceCtorEq, eSl, pSome, pNone, lcT, wipeE, fits_0, fits_1, fits_2, fits_3, fits_4, hpow, z_ge, decide_eq_true hg]) (by simp only [fnS, env0, sSeq, sSet, sRet, sRetN, sIf, sE, sAsg, sPar, sNx, sPut, R.toS, R.bind, eVar, eC, eOp, eTup, eLst, eLstR, aCons, aNil, eIf, eAn, eOr, eNt, eIsi, toB, tNt, tAn, tOr_, tYs, eCall, eCall0, eB, eMt, eMt0, iSrc, iRg1, iRg2, iEn, iZp, gN, gT, gsCons, gsNil, turnS, List.map_cons, List.map_nil, List.length_cons, List.length_nil, List.replicate, List.cons_append, List.nil_append, List.getElem?_cons_zero, List.getElem?_cons_succ, List.set_cons_zero, List.set_cons_succ, Nat.sub_self, Nat.reduceSub, Nat.reduceAdd, if_true, Bool.false_eq_true, if_false, ite_true, ite_false, List.cons.injEq, and_false, false_and, true_and, and_true, decide_false, decide_true, Bool.not_true, Bool.not_false, Bool.true_and, Bool.false_and, Bool.and_true, Bool.and_false, Bool.or_false, Bool.or_true, Bool.false_or, Bool.true_or, Nat.reduceEqDiff, reduceCtorEq, eSl, pSome, pNone, lcT, wipeE, fits_0, fits_1, fits_2, fits_3, fits_4, sPut, P0])) ?_
        exact e
      · obtain ⟨x4, x5, b', e, hb'⟩ := fin { b0 with c := b0.c + 1 } hl
        refine ⟨x4, x5, b', ?_, hb'⟩
        refine st_ift (S' := S.set 0 (.bag b0)) (by simp only [fnS, env0, sSeq, sSet, sRet, sRetN, sIf, sE, sAsg, sPar, sNx, sPut, R.toS, R.bind, eVar, eC, eOp, eTup, eLst, eLstR, aCons, aNil, eIf, eAn, eOr, eNt, eIsi, toB, tNt, tAn, tOr_, tYs, eCall, eCall0, eB, eMt, eMt0, iSrc, iRg1, iRg2, iEn, iZp, gN, gT, gsCons, gsNil, turnS, List.map_cons, List.map_nil, List.length_cons, List.length_nil, List.replicate, List.cons_append, List.nil_append, List.getElem?_cons_zero, List.getElem?_cons_succ, List.set_cons_zero, List.set_cons_succ, Nat.sub_self, Nat.reduceSub, Nat.reduceAdd, if_true, Bool.false_eq_true, if_false, ite_true, ite_false, List.cons.injEq, and_false, false_and, true_and, and_true, decide_false, decide_true, Bool.not_true, Bool.not_false, Bool.true_and, Bool.false_and, Bool.and_true, Bool.and_false, Bool.or_false, Bool.or_true, Bool.false_or, Bool.true_or, Nat.reduceEqDiff, reduceCtorEq, eSl, pSome, pNone, lcT, wipeE, fits_0, fits_1, fits_2, fits_3, fits_4, X0, z_eqi, ha]) ?_
        refine sq_nx (st_set (d := .int cell) (S' := S.set 0 (.bag b0)) (by simp only [fnS, env0, sSeq, sSet, sRet, sRetN, sIf, sE, sAsg, sPar, sNx, sPut, R.toS, R.bind, eVar, eC, eOp, eTup, eLst, eLstR, aCons, aNil, eIf, eAn, eOr, eNt, eIsi, toB, tNt, tAn, tOr_, tYs, eCall, eCall0, eB, eMt, eMt0, iSrc, iRg1, iRg2, iEn, iZp, gN, gT, gsCons, gsNil, turnS, List.map_cons, List.map_nil, List.length_cons, List.length_nil, List.replicate, List.cons_append, List.nil_append, List.getElem?_cons_zero, List.getElem?_cons_succ, List.set_cons_zero, List.set_cons_succ, Nat.sub_self, Nat.reduceSub, Nat.reduceAdd, if_true, Bool.false_eq_true, if_false, ite_true, ite_false, List.cons.injEq, and_false, false_and, true_and, and_true, decide_false, decide_true, Bool.not_true, Bool.not_false, Bool.true_and, Bool.false_and, Bool.and_true, Bool.and_false, Bool.or_false, Bool.or_true, Bool.false_or, Bool.true_or, Nat.reduceEqDiff, reduceCtorEq, eSl, pSome, pNone, lcT, wipeE, fits_0, fits_1, fits_2, fits_3, fits_4, X3, X2, hsl, hadd, hc, show fits 1 = true from rfl])) ?_
        refine sq_nx (ρ' := [some (.ref 0), some (.int many), none, none, some (.int cell), none, none]) (S' := S.set 0 (.bag { b0 with c := b0.c + 1 })) (by simp only [fnS, env0, sSeq, sSet, sRet, sRetN, sIf, sE, sAsg, sPar, sNx, sPut, R.toS, R.bind, eVar, eC, eOp, eTup, eLst, eLstR, aCons, aNil, eIf, eAn, eOr, eNt, eIsi, toB, tNt, tAn, tOr_, tYs, eCall, eCall0, eB, eMt, eMt0, iSrc, iRg1, iRg2, iEn, iZp, gN, gT, gsCons, gsNil, turnS, List.map_cons, List.map_nil, List.length_cons, List.length_nil, List.replicate, List.cons_append, List.nil_append, List.getElem?_cons_zero, List.getElem?_cons_succ, List.set_cons_zero, List.set_cons_succ, Nat.sub_self, Nat.reduceSub, Nat.reduceAdd, if_true, Bool.false_eq_true, if_false, ite_true, ite_false, List.cons.injEq, and_false, false_and, true_and, and_true, decide_false, decide_true, Bool.not_true, Bool.not_false, Bool.true_and, Bool.false_and, Bool.and_true, Bool.and_false, Bool.or_false, Bool.or_true, Bool.false_or, Bool.true_or, Nat.reduceEqDiff, reduceCtorEq, eSl, pSome, pNone, lcT, wipeE, fits_0, fits_1, fits_2, fits_3, fits_4, sAugS, Y2, oAddI, P2]) ?_
        refine sq_nx (ρ' := [some (.ref 0), some (.int many), none, none, some (.int cell), none, none]) (S' := S.set 0 (.bag { b0 with c := b0.c + 1 })) (st_iff (S' := S.set 0 (.bag { b0 with c := b0.c + 1 })) (by simp only [fnS, env0, sSeq, sSet, sRet, sRetN, sIf, sE, sAsg, sPar, sNx, sPut, R.toS, R.bind, eVar, eC, eOp, eTup, eLst, eLstR, aCons, aNil, eIf, eAn, eOr, eNt, eIsi, toB, tNt, tAn, tOr_, tYs, eCall, eCall0, eB, eMt, eMt0, iSrc, iRg1, iRg2, iEn, iZp, gN, gT, gsCons, gsNil, turnS, List.map_cons, List.map_nil, List.length_cons, List.length_nil, List.replicate, List.cons_append, List.nil_append, List.getElem?_cons_zero, List.getElem?_cons_succ, List.set_cons_zero, List.set_cons_succ, Nat.sub_self, Nat.reduceSub, Nat.reduceAdd, if_true, Bool.false_eq_true, if_false, ite_true, ite_false, List.cons.injEq, and_false, false_and, true_and, and_true, decide_false, decide_true, Bool.not_true, Bool.not_false, Bool.true_and, Bool.false_and, Bool.and_true, Bool.and_false, Bool.or_false, Bool.or_true, Bool.false_or, Bool.true_or, Nat.reduceEqDiff, reduceCtorEq, eSl, pSome, pNone, lcT, wipeE, fits_0, fits_1, fits_2, fits_3, fits_4, hpow, z_ge, decide_eq_false hg]) st_nx) ?_
        exact e
    · exact ⟨none, none, b0, st_iff (S' := S.set 0 (.bag b0)) (by simp only [fnS, env0, sSeq, sSet, sRet, sRetN, sIf, sE, sAsg, sPar, sNx, sPut, R.toS, R.bind, eVar, eC, eOp, eTup, eLst, eLstR, aCons, aNil, eIf, eAn, eOr, eNt, eIsi, toB, tNt, tAn, tOr_, tYs, eCall, eCall0, eB, eMt, eMt0, iSrc, iRg1, iRg2, iEn, iZp, gN, gT, gsCons, gsNil, turnS, List.map_cons, List.map_nil, List.length_cons, List.length_nil, List.replicate, List.cons_append, List.nil_append, List.getElem?_cons_zero, List.getElem?_cons_succ, List.set_cons_zero, List.set_cons_succ, Nat.sub_self, Nat.reduceSub, Nat.reduceAdd, if_true, Bool.false_eq_true, if_false, ite_true, ite_false, List.cons.injEq, and_false, false_and, true_and, and_true, decide_false, decide_true, Bool.not_true, Bool.not_false, Bool.true_and, Bool.false_and, Bool.and_true, Bool.and_false, Bool.or_false, Bool.or_true, Bool.false_or, Bool.true_or, Nat.reduceEqDiff, reduceCtorEq, eSl, pSome, pNone, lcT, wipeE, fits_0, fits_1, fits_2, fits_3, fits_4, X0, z_eqi, decide_eq_false ha]) st_nx, hl⟩
  obtain ⟨x4, x5, b, e1, hb⟩ := A
  unfold f_take
  by_cases hg : 0 < b.a
  · refine ⟨b.a % many, S.set 0 (.bag { b with a := b.a / many }), ?_, Int.emod_nonneg _ (by omega), Int.emod_lt_of_pos _ h0, N _ hb⟩
    conv => lhs; rw [eS]
    refine fn_rt ?_
    refine sq_nx e1 ?_
    refine sq_rt (st_ift (S' := S.set 0 (.bag b)) (by simp only [fnS, env0, sSeq, sSet, sRet, sRetN, sIf, sE, sAsg, sPar, sNx, sPut, R.toS, R.bind, eVar, eC, eOp, eTup, eLst, eLstR, aCons, aNil, eIf, eAn, eOr, eNt, eIsi, toB, tNt, tAn, tOr_, tYs, eCall, eCall0, eB, eMt, eMt0, iSrc, iRg1, iRg2, iEn, iZp, gN, gT, gsCons, gsNil, turnS, List.map_cons, List.map_nil, List.length_cons, List.length_nil, List.replicate, List.cons_append, List.nil_append, List.getElem?_cons_zero, List.getElem?_cons_succ, List.set_cons_zero, List.set_cons_succ, Nat.sub_self, Nat.reduceSub, Nat.reduceAdd, if_true, Bool.false_eq_true, if_false, ite_true, ite_false, List.cons.injEq, and_false, false_and, true_and, and_true, decide_false, decide_true, Bool.not_true, Bool.not_false, Bool.true_and, Bool.false_and, Bool.and_true, Bool.and_false, Bool.or_false, Bool.or_true, Bool.false_or, Bool.true_or, Nat.reduceEqDiff, reduceCtorEq, eSl, pSome, pNone, lcT, wipeE, fits_0, fits_1, fits_2, fits_3, fits_4, X0, z_gt, decide_eq_true hg]) ?_)
    simp only [fnS, env0, sSeq, sSet, sRet, sRetN, sIf, sE, sAsg, sPar, sNx, sPut, R.toS, R.bind, eVar, eC, eOp, eTup, eLst, eLstR, aCons, aNil, eIf, eAn, eOr, eNt, eIsi, toB, tNt, tAn, tOr_, tYs, eCall, eCall0, eB, eMt, eMt0, iSrc, iRg1, iRg2, iEn, iZp, gN, gT, gsCons, gsNil, turnS, List.map_cons, List.map_nil, List.length_cons, List.length_nil, List.replicate, List.cons_append, List.nil_append, List.getElem?_cons_zero, List.getElem?_cons_succ, List.set_cons_zero, List.set_cons_succ, Nat.sub_self, Nat.reduceSub, Nat.reduceAdd, if_true, Bool.false_eq_true, if_false, ite_true, ite_false, List.cons.injEq, and_false, false_and, true_and, and_true, decide_false, decide_true, Bool.not_true, Bool.not_false, Bool.true_and, Bool.false_and, Bool.and_true, Bool.and_false, Bool.or_false, Bool.or_true, Bool.false_or, Bool.true_or, Nat.reduceEqDiff, reduceCtorEq, eSl, pSome, pNone, lcT, wipeE, fits_0, fits_1, fits_2, fits_3, fits_4, sPut, X0, P0, z_int, z_modI h0, z_divI h0 h1]
  · have hb0 : 0 ≤ (b.b + 1) * 39373 % 1000000007 := Int.emod_nonneg _ (by decide)
    have hb1 : (b.b + 1) * 39373 % 1000000007 < 1000000007 := Int.emod_lt_of_pos _ (by decide)
    refine ⟨(((b.b + 1) * 39373 % 1000000007) * ((b.b + 1) * 39373 % 1000000007) % 998244353 * 30011 % 998244353) / 7 % many, S.set 0 (.bag b), ?_, Int.emod_nonneg _ (by omega), Int.emod_lt_of_pos _ h0, N _ hb⟩
    conv => lhs; rw [eS]
    refine fn_rt ?_
    refine sq_nx e1 ?_
    refine sq_nx (st_iff (S' := S.set 0 (.bag b)) (by simp only [fnS, env0, sSeq, sSet, sRet, sRetN, sIf, sE, sAsg, sPar, sNx, sPut, R.toS, R.bind, eVar, eC, eOp, eTup, eLst, eLstR, aCons, aNil, eIf, eAn, eOr, eNt, eIsi, toB, tNt, tAn, tOr_, tYs, eCall, eCall0, eB, eMt, eMt0, iSrc, iRg1, iRg2, iEn, iZp, gN, gT, gsCons, gsNil, turnS, List.map_cons, List.map_nil, List.length_cons, List.length_nil, List.replicate, List.cons_append, List.nil_append, List.getElem?_cons_zero, List.getElem?_cons_succ, List.set_cons_zero, List.set_cons_succ, Nat.sub_self, Nat.reduceSub, Nat.reduceAdd, if_true, Bool.false_eq_true, if_false, ite_true, ite_false, List.cons.injEq, and_false, false_and, true_and, and_true, decide_false, decide_true, Bool.not_true, Bool.not_false, Bool.true_and, Bool.false_and, Bool.and_true, Bool.and_false, Bool.or_false, Bool.or_true, Bool.false_or, Bool.true_or, Nat.reduceEqDiff, reduceCtorEq, eSl, pSome, pNone, lcT, wipeE, fits_0, fits_1, fits_2, fits_3, fits_4, X0, z_gt, decide_eq_false hg]) st_nx) ?_
    simp only [fnS, env0, sSeq, sSet, sRet, sRetN, sIf, sE, sAsg, sPar, sNx, sPut, R.toS, R.bind, eVar, eC, eOp, eTup, eLst, eLstR, aCons, aNil, eIf, eAn, eOr, eNt, eIsi, toB, tNt, tAn, tOr_, tYs, eCall, eCall0, eB, eMt, eMt0, iSrc, iRg1, iRg2, iEn, iZp, gN, gT, gsCons, gsNil, turnS, List.map_cons, List.map_nil, List.length_cons, List.length_nil, List.replicate, List.cons_append, List.nil_append, List.getElem?_cons_zero, List.getElem?_cons_succ, List.set_cons_zero, List.set_cons_succ, Nat.sub_self, Nat.reduceSub, Nat.reduceAdd, if_true, Bool.false_eq_true, if_false, ite_true, ite_false, List.cons.injEq, and_false, false_and, true_and, and_true, decide_false, decide_true, Bool.not_true, Bool.not_false, Bool.true_and, Bool.false_and, Bool.and_true, Bool.and_false, Bool.or_false, Bool.or_true, Bool.false_or, Bool.true_or, Nat.reduceEqDiff, reduceCtorEq, eSl, pSome, pNone, lcT, wipeE, fits_0, fits_1, fits_2, fits_3, fits_4, X1, z_int, z_addI, z_mulI (show lt64 39373 = true from rfl), z_mulI (show lt64 30011 = true from rfl), z_mulI (lt64_of hb0 hb1), z_modI (show (0 : Int) < 1000000007 by decide), z_modI (show (0 : Int) < 998244353 by decide), z_modI h0, z_divI (show (0 : Int) < 7 by decide) (show (7 : Int) < 1073741824 by decide)]
def m_bag : C := (sRet (eBag (aCons (eC (.int 0)) (aCons (eC (.int 1234567891)) (aCons (eC (.int 0)) (aCons (eLc [1] (iSrc (eSl (eVar 0) pNone (pSome (eC (.int 63))))) (gN 1) tYs (eB oAbs (aCons (eVar 1) aNil))) aNil))))))
def f_bag : Fn := (fnS 1 2 m_bag)
theorem intsOf_m : ∀ bs : List Int, intsOf (bs.map .int) = some bs
  | [] => rfl
  | b :: bs => by rw [List.map_cons, intsOf, intsOf_m bs]
theorem bag_ok {ns : List Int} (h : ns.length ≤ 63) : ∃ S, f_bag [.arg ns] Sto.nil = .ok (.ref 0) S ∧ Bg S := by
  have hl : (cut ns none (some 63)).length ≤ 63 := by
    unfold cut
    have := List.length_take_le' (HT.sIx ns.length ns.length (some 63) - HT.sIx ns.length 0 none) (ns.drop (HT.sIx ns.length 0 none))
    rw [List.length_drop] at this
    omega
  have e : eLc [1] (iSrc (eSl (eVar 0) pNone (pSome (eC (.int 63))))) (gN 1) tYs (eB oAbs (aCons (eVar 1) aNil)) [some (.arg ns), none] Sto.nil = .ok (.lst ((cut ns none (some 63)).map fun i => D.int (if i < 0 then -i else i))) Sto.nil := by
    refine eLc_m (emb := D.int) (xs := cut ns none (some 63)) rfl (fun i _ => ?_) (by omega)
    rfl
  refine ⟨⟨1, [.bag ⟨0, 1234567891, 0, (cut ns none (some 63)).map fun i => (if i < 0 then -i else i)⟩]⟩, ?_, rfl, _, rfl, ?_⟩
  · refine fn_rt (st_ret ?_)
    show (eBag (aCons _ (aCons _ (aCons _ (aCons _ aNil))))) [some (.arg ns), none] Sto.nil = _
    revert e
    generalize eLc _ _ _ _ _ = E
    intro e
    have hi := intsOf_m ((cut ns none (some 63)).map fun i => (if i < 0 then -i else i))
    rw [List.map_map] at hi
    unfold eBag
    simp only [fnS, env0, sSeq, sSet, sRet, sRetN, sIf, sE, sAsg, sPar, sNx, sPut, R.toS, R.bind, eVar, eC, eOp, eTup, eLst, eLstR, aCons, aNil, eIf, eAn, eOr, eNt, eIsi, toB, tNt, tAn, tOr_, tYs, eCall, eCall0, eB, eMt, eMt0, iSrc, iRg1, iRg2, iEn, iZp, gN, gT, gsCons, gsNil, turnS, List.map_cons, List.map_nil, List.length_cons, List.length_nil, List.replicate, List.cons_append, List.nil_append, List.getElem?_cons_zero, List.getElem?_cons_succ, List.set_cons_zero, List.set_cons_succ, Nat.sub_self, Nat.reduceSub, Nat.reduceAdd, if_true, Bool.false_eq_true, if_false, ite_true, ite_false, List.cons.injEq, and_false, false_and, true_and, and_true, decide_false, decide_true, Bool.not_true, Bool.not_false, Bool.true_and, Bool.false_and, Bool.and_true, Bool.and_false, Bool.or_false, Bool.or_true, Bool.false_or, Bool.true_or, Nat.reduceEqDiff, reduceCtorEq, eSl, pSome, pNone, lcT, wipeE, fits_0, fits_1, fits_2, fits_3, fits_4, e]
    have hi : intsOf ((cut ns none (some 63)).map fun i => D.int (if i < 0 then -i else i)) = _ := hi
    rw [hi]
    rfl
  · rw [List.length_map]; omega
/-! ### rows of draws -/
theorem lcS_eff {β : Type} {turn : D → Sto → R (Option D)} {out : β → D} (Q : β → Prop) : ∀ (ds : List D) (S : Sto), (∀ d ∈ ds, ∀ S, Bg S → ∃ b S', turn d S = .ok (some (out b)) S' ∧ Q b ∧ Nxt S S') → Bg S → ∃ (bs : List β) (S' : Sto), lcS turn ds S = .ok (bs.map out) S' ∧ (∀ b ∈ bs, Q b) ∧ bs.length = ds.length ∧ Nxt S S'
  | [], S, _, h => ⟨[], S, rfl, by simp, rfl, Nxt.refl h⟩
  | d :: ds, S, ht, h => by
    obtain ⟨b, S1, e1, q1, n1⟩ := ht d List.mem_cons_self S h
    obtain ⟨bs, S2, e2, q2, l2, n2⟩ := lcS_eff Q ds S1 (fun d hd => ht d (List.mem_cons_of_mem _ hd)) n1.1
    refine ⟨b :: bs, S2, ?_, ?_, by rw [List.length_cons, List.length_cons, l2], n1.trans n2⟩
    · unfold lcS
      rw [e1]
      dsimp only
      rw [e2]
      rfl
    · intro x hx
      rcases List.mem_cons.mp hx with e | hx
      · rw [e]; exact q1
      · exact q2 x hx
/-- some of them -/
theorem lcS_sub {α : Type} {turn : D → Sto → R (Option D)} {emb out : α → D} : ∀ (xs : List α) (S : Sto), (∀ x ∈ xs, ∀ S, Bg S → ∃ (b : Bool) (S' : Sto), turn (emb x) S = .ok (if b = true then some (out x) else none) S' ∧ Nxt S S') → Bg S → ∃ (ys : List α) (S' : Sto), ys.Sublist xs ∧ lcS turn (xs.map emb) S = .ok (ys.map out) S' ∧ Nxt S S'
  | [], S, _, h => ⟨[], S, List.Sublist.refl _, rfl, Nxt.refl h⟩
  | x :: xs, S, ht, h => by
    obtain ⟨b, S1, e1, n1⟩ := ht x List.mem_cons_self S h
    obtain ⟨ys, S2, s2, e2, n2⟩ := lcS_sub xs S1 (fun d hd => ht d (List.mem_cons_of_mem _ hd)) n1.1
    cases b with
    | true =>
      refine ⟨x :: ys, S2, s2.cons₂ _, ?_, n1.trans n2⟩
      rw [List.map_cons]
      unfold lcS
      rw [e1]
      simp only [if_true]
      rw [e2]
      rfl
    | false =>
      refine ⟨ys, S2, s2.cons _, ?_, n1.trans n2⟩
      rw [List.map_cons]
      unfold lcS
      rw [e1]
      simp only [Bool.false_eq_true, if_false]
      exact e2
theorem eLc_eff {β : Type} {vs : List Nat} {mi : EI} {g : Tg} {t : T} {e : E} {ρ : Env} {S S1 : Sto} {ds : List D} {out : β → D} (Q : β → Prop) (hi : mi ρ S = .ok (.st ds) S1) (hn : Nxt S S1) (hf : ∀ d ∈ ds, ∀ S, Bg S → ∃ b S', lcT g t e (wipeE ρ vs) d S = .ok (some (out b)) S' ∧ Q b ∧ Nxt S S') (hl : ds.length ≤ 16777216) : ∃ (bs : List β) (S' : Sto), eLc vs mi g t e ρ S = .ok (.lst (bs.map out)) S' ∧ (∀ b ∈ bs, Q b) ∧ bs.length = ds.length ∧ Nxt S S' := by
  obtain ⟨bs, S', e1, q, l, n⟩ := lcS_eff Q ds S1 hf hn.1
  refine ⟨bs, S', ?_, q, l, hn.trans n⟩
  show ((mi ρ S).bind fun src S => _) = _
  rw [hi]
  show (match lcRun (lcT g t e (wipeE ρ vs)) (.st ds) S1 with | .ok ys S' => if fits ys.length = true then R.ok (D.lst ys) S' else .bad | _ => .bad) = _
  have e1 : lcRun (lcT g t e (wipeE ρ vs)) (.st ds) S1 = .ok (bs.map out) S' := e1
  rw [e1]
  show (if fits (bs.map out).length = true then R.ok (D.lst (bs.map out)) S' else .bad) = _
  rw [if_pos (fits_of (by rw [List.length_map]; omega))]
theorem eLc_sub {α : Type} {vs : List Nat} {mi : EI} {g : Tg} {t : T} {e : E} {ρ : Env} {S S1 : Sto} {emb out : α → D} {xs : List α} (hi : mi ρ S = .ok (.st (xs.map emb)) S1) (hn : Nxt S S1) (hf : ∀ x ∈ xs, ∀ S, Bg S → ∃ (b : Bool) (S' : Sto), lcT g t e (wipeE ρ vs) (emb x) S = .ok (if b = true then some (out x) else none) S' ∧ Nxt S S') (hl : xs.length ≤ 16777216) : ∃ (ys : List α) (S' : Sto), ys.Sublist xs ∧ eLc vs mi g t e ρ S = .ok (.lst (ys.map out)) S' ∧ Nxt S S' := by
  obtain ⟨ys, S', s, e1, n⟩ := lcS_sub xs S1 hf hn.1
  refine ⟨ys, S', s, ?_, hn.trans n⟩
  show ((mi ρ S).bind fun src S => _) = _
  rw [hi]
  show (match lcRun (lcT g t e (wipeE ρ vs)) (.st (xs.map emb)) S1 with | .ok ys S' => if fits ys.length = true then R.ok (D.lst ys) S' else .bad | _ => .bad) = _
  have e1 : lcRun (lcT g t e (wipeE ρ vs)) (.st (xs.map emb)) S1 = .ok (ys.map out) S' := e1
  rw [e1]
  show (if fits (ys.map out).length = true then R.ok (D.lst (ys.map out)) S' else .bad) = _
  rw [if_pos (fits_of (by rw [List.length_map]; have := s.length_le; omega))]
end Z

/-! ZM: rows of numbers, drawn maps. -/
namespace Z
open PySem PySem.Spec PyProof PyProof.Rows L2
def nD (i : Nat) : D := .int i
def cellsD (l : List Nat) : D := .tup (l.map nD)
def cpD (p : Nat × Nat) : D := .tup [nD p.1, nD p.2]
theorem nrfs_nat : ∀ l : List Nat, nrfs (l.map nD) = true
  | [] => rfl
  | _ :: l => by rw [List.map_cons, nrfs, nrfs_nat l]; rfl
theorem nrfs_cp : ∀ l : List (Nat × Nat), nrfs (l.map cpD) = true
  | [] => rfl
  | _ :: l => by rw [List.map_cons, nrfs, nrfs_cp l]; rfl
theorem shps_nat (n : Nat) : ∀ l : List Nat, shps (n + 1) (l.map nD) = true
  | [] => by simp [shps]
  | _ :: l => by rw [List.map_cons, shps, shps_nat n l]; simp [nD, shp]
theorem shps_cp (n : Nat) : ∀ l : List (Nat × Nat), shps (n + 2) (l.map cpD) = true
  | [] => by simp [shps]
  | _ :: l => by rw [List.map_cons, shps, shps_cp n l]; simp [cpD, nD, shp, shps]
theorem any_nat (c : Nat) : ∀ l : List Nat, (l.map nD).any (fun z => eqv z (nD c)) = l.contains c
  | [] => rfl
  | x :: l => by
    rw [List.map_cons, List.any_cons, any_nat c l, List.contains_cons]
    congr 1
    simp only [nD, eqv]
    rw [Bool.eq_iff_iff]
    simp
    exact ⟨fun h => by omega, fun h => by omega⟩
theorem z_inN {c : Nat} {l : List Nat} {S : Sto} : oIn (nD c) (cellsD l) S = .ok (.bl (l.contains c)) S := by
  unfold cellsD
  rw [z_inT rfl rfl (by rw [shp]; exact shps_nat 59 l), any_nat]
theorem eqv_lst_nil : ∀ l : List D, eqv (.lst l) (.lst []) = l.isEmpty
  | [] => rfl
  | _ :: _ => rfl
theorem z_neN {l : List Nat} {S : Sto} : oNe (.lst (l.map nD)) (.lst []) S = .ok (.bl (!l.isEmpty)) S := by
  show (if shp 60 (.lst (l.map nD)) = true ∧ shp 60 (.lst []) = true then R.ok (D.bl (!eqv (.lst (l.map nD)) (.lst []))) S else .bad) = _
  rw [if_pos ⟨by rw [shp]; exact shps_nat 59 l, rfl⟩, eqv_lst_nil]
  cases l <;> rfl
theorem z_eqB {a b : Bool} {S : Sto} : oEq (.bl a) (.bl b) S = .ok (.bl (a == b)) S := by cases a <;> cases b <;> rfl
def m_couples : C := (sSeq (sSet 1 (eLstR aNil)) (sSeq (sFor (iRg1 (aCons (eVar 0) aNil)) (gN 2) (sE (eMt tyL oExtend (eVar 1) (aCons (eLc [3] (iRg2 (aCons (eOp oAdd (eVar 2) (eC (.int 1))) (aCons (eVar 0) aNil))) (gN 3) tYs (eTup (aCons (eVar 2) (aCons (eVar 3) aNil)))) aNil)))) (sRet (eVar 1))))
def f_couples : Fn := fnA (fnS 1 4 m_couples)
def couplesL (n : Nat) : List (Nat × Nat) := (List.range n).flatMap fun a => (List.range' (a + 1) (n - (a + 1))).map fun b => (a, b)
theorem couples_ok {n : Nat} (h : n ≤ 8) (S : Sto) : f_couples [nD n] S = .ok (.lst ((couplesL n).map cpD)) S := by
  have : n = 0 ∨ n = 1 ∨ n = 2 ∨ n = 3 ∨ n = 4 ∨ n = 5 ∨ n = 6 ∨ n = 7 ∨ n = 8 := by omega
  rcases this with rfl | rfl | rfl | rfl | rfl | rfl | rfl | rfl | rfl <;> rfl
theorem couples_lt {n : Nat} {p : Nat × Nat} (h : p ∈ couplesL n) : p.1 < p.2 ∧ p.2 < n := by
  unfold couplesL at h
  obtain ⟨a, ha, h⟩ := List.mem_flatMap.mp h
  obtain ⟨b, hb, rfl⟩ := List.mem_map.mp h
  have ha := List.mem_range.mp ha
  obtain ⟨h1, h2⟩ := List.mem_range'_1.mp hb
  exact ⟨by show a < b; omega, by show b < n; omega⟩
/-- a zone: its name, its cells -/
abbrev Zn := List Nat × List Nat
def znD (z : Zn) : D := .tup [.str z.1, .tup (z.2.map nD)]
def gmD (n : Nat) (sm : List (Nat × Nat)) (zs : List Zn) : D := .tup [nD n, .tup (sm.map cpD), .tup (zs.map znD)]
def m_map : C := (sSeq (sSet 3 (eOp oAdd (eC (.int 1)) (eCall 2 f_take (aCons (eVar 0) (aCons (eVar 2) aNil))))) (sSeq (sSet 4 (eB oTuple (aCons (eLc [8] (iSrc (eCall 1 f_couples (aCons (eVar 3) aNil))) (gN 8) (toB (eOp (oCmp .Lt) (eCall 2 f_take (aCons (eVar 0) (aCons (eC (.int 5)) aNil))) (eC (.int 2)))) (eVar 8)) aNil))) (sSeq (sSet 5 (eLstR aNil)) (sSeq (sFor (iSrc (eVar 1)) (gN 6) (sSeq (sSet 7 (eLc [9] (iRg1 (aCons (eVar 3) aNil)) (gN 9) (toB (eOp oEq (eCall 2 f_take (aCons (eVar 0) (aCons (eC (.int 2)) aNil))) (eC (.int 0)))) (eVar 9))) (sE (eMt tyL oAppend (eVar 5) (aCons (eTup (aCons (eVar 6) (aCons (eB oTuple (aCons (eIf (toB (eOp oNe (eVar 7) (eLst aNil))) (eVar 7) (eLst (aCons (eCall 2 f_take (aCons (eVar 0) (aCons (eVar 3) aNil))) aNil))) aNil)) aNil))) aNil))))) (sRet (eTup (aCons (eVar 3) (aCons (eVar 4) (aCons (eB oTuple (aCons (eVar 5) aNil)) aNil)))))))))
def f_map : Fn := fnS 3 10 m_map
theorem take_nat {S : Sto} {many : Nat} (h : Bg S) (h0 : 0 < many) (h1 : many < 1073741824) : ∃ (v : Nat) (S' : Sto), f_take [.ref 0, .int many] S = .ok (.int v) S' ∧ v < many ∧ Nxt S S' := by
  obtain ⟨v, S', e, a, b, c⟩ := take_ok (many := (many : Int)) h (by omega) (by omega)
  obtain ⟨k, rfl⟩ := Int.eq_ofNat_of_zero_le a
  exact ⟨k, S', e, by omega, c⟩
theorem Nxt.setk {S S' : Sto} {k : Nat} {o : O} (n : Nxt S S') (hk : S.len ≤ k) (h0 : k ≠ 0) : Nxt S (S'.set k o) := by
  obtain ⟨a, b, c⟩ := Nxt.set (o := o) n.1 h0
  exact ⟨a, by rw [b]; exact n.2.1, fun i hi hn => (c i (by omega)).trans (n.2.2 i hi hn)⟩
theorem app_k {S : Sto} {k : Nat} {l : List D} {d : D} (e : S.get k = some (.lst l)) (h : l.length + 1 ≤ 16777216) : oAppend (.ref k) [d] S = .ok .non (S.set k (.lst (l ++ [d]))) := by
  have : refL (.ref k) S = some (k, l) := by unfold refL; dsimp only; rw [e]
  unfold oAppend
  rw [this]
  dsimp only
  rw [if_pos (fits_of h)]
theorem ext_k {S : Sto} {k : Nat} {l f : List D} (e : S.get k = some (.lst l)) (h : l.length + f.length ≤ 16777216) : oExtend (.ref k) [.lst f] S = .ok .non (S.set k (.lst (l ++ f))) := by
  have : refL (.ref k) S = some (k, l) := by unfold refL; dsimp only; rw [e]
  unfold oExtend
  rw [this]
  show (if fits (l.length + f.length) = true then R.ok D.non (S.set k (.lst (l ++ f))) else .bad) = _
  rw [if_pos (fits_of h)]
theorem tyL_k {S : Sto} {k : Nat} {l : List D} (e : S.get k = some (.lst l)) : tyL (.ref k) S = true := by
  unfold tyL rd
  dsimp only
  rw [e]
theorem tup_k {S : Sto} {k : Nat} {l : List D} (e : S.get k = some (.lst l)) : oTuple [.ref k] S = .ok (.tup l) S := by
  unfold oTuple rd
  dsimp only
  rw [e]
theorem rg1_nat {n : Nat} {ma : As} {ρ : Env} {S S' : Sto} (h : ma ρ S = .ok [nD n] S') (hn : n ≤ 16777216) : iRg1 ma ρ S = .ok (.st ((List.range n).map nD)) S' := by
  unfold iRg1
  rw [h]
  show (if small (n : Int) = true then R.ok (Src.st (irow 0 (n : Int).toNat)) S' else .bad) = _
  rw [if_pos (small_nat hn), Int.toNat_natCast, irow_0]
  rfl
/-- a zone drawn -/
def ZOk (n : Nat) (z : Zn) : Prop := z.2 ≠ [] ∧ z.2.Sublist (List.range n)
theorem sub_one {n c : Nat} (h : c < n) : [c].Sublist (List.range n) := List.singleton_sublist.mpr (List.mem_range.mpr h)
theorem map_ok {S : Sto} {names : List (List Nat)} {most : Nat} (h : Bg S) (hm : 1 ≤ most) (hm8 : most ≤ 8) (hn : names.length ≤ 100) : ∃ (n : Nat) (sm : List (Nat × Nat)) (zs : List Zn) (S' : Sto), f_map [.ref 0, .tup (names.map .str), nD most] S = .ok (gmD n sm zs) S' ∧ 1 ≤ n ∧ n ≤ most ∧ sm.Sublist (couplesL n) ∧ zs.map (·.1) = names ∧ (∀ z ∈ zs, ZOk n z) ∧ Nxt S S' := by
  obtain ⟨v, S1, e1, hv, n1⟩ := take_nat (many := most) h (by omega) (by omega)
  obtain ⟨n, hnv⟩ : ∃ n, n = 1 + v := ⟨_, rfl⟩
  have en : ((1 : Int) + (v : Int)) = ((n : Nat) : Int) := by omega
  obtain ⟨sm, S2, hsub, e2, n2⟩ := eLc_sub (vs := [8]) (mi := iSrc (eCall 1 f_couples (aCons (eVar 3) aNil))) (g := gN 8) (t := toB (eOp (oCmp .Lt) (eCall 2 f_take (aCons (eVar 0) (aCons (eC (.int 5)) aNil))) (eC (.int 2)))) (e := eVar 8) (ρ := [some (.ref 0), some (.tup (names.map .str)), some (nD most), some (nD n), none, none, none, none, none, none]) (S := S1) (S1 := S1) (emb := cpD) (out := cpD) (xs := couplesL n) (by simp only [fnS, env0, sSeq, sSet, sRet, sRetN, sIf, sE, sAsg, sPar, sNx, sPut, R.toS, R.bind, eVar, eC, eOp, eTup, eLst, eLstR, aCons, aNil, eIf, eAn, eOr, eNt, eIsi, toB, tNt, tAn, tOr_, tYs, eCall, eCall0, eB, eMt, eMt0, iSrc, iRg1, iRg2, iEn, iZp, gN, gT, gsCons, gsNil, turnS, List.map_cons, List.map_nil, List.length_cons, List.length_nil, List.replicate, List.cons_append, List.nil_append, List.getElem?_cons_zero, List.getElem?_cons_succ, List.set_cons_zero, List.set_cons_succ, Nat.sub_self, Nat.reduceSub, Nat.reduceAdd, if_true, Bool.false_eq_true, if_false, ite_true, ite_false, List.cons.injEq, and_false, false_and, true_and, and_true, decide_false, decide_true, Bool.not_true, Bool.not_false, Bool.true_and, Bool.false_and, Bool.and_true, Bool.and_false, Bool.or_false, Bool.or_true, Bool.false_or, Bool.true_or, Nat.reduceEqDiff, reduceCtorEq, eSl, pSome, pNone, lcT, wipeE, fits_0, fits_1, fits_2, fits_3, fits_4, couples_ok (show n ≤ 8 by omega), srcOf]) (Nxt.refl n1.1) (fun x hx S hS => by
    obtain ⟨w, S', e, _, nx⟩ := take_nat (many := 5) hS (by decide) (by decide)
    have e : f_take [.ref 0, .int 5] S = .ok (.int w) S' := e
    refine ⟨decide ((w : Int) < 2), S', ?_, nx⟩
    simp only [fnS, env0, sSeq, sSet, sRet, sRetN, sIf, sE, sAsg, sPar, sNx, sPut, R.toS, R.bind, eVar, eC, eOp, eTup, eLst, eLstR, aCons, aNil, eIf, eAn, eOr, eNt, eIsi, toB, tNt, tAn, tOr_, tYs, eCall, eCall0, eB, eMt, eMt0, iSrc, iRg1, iRg2, iEn, iZp, gN, gT, gsCons, gsNil, turnS, List.map_cons, List.map_nil, List.length_cons, List.length_nil, List.replicate, List.cons_append, List.nil_append, List.getElem?_cons_zero, List.getElem?_cons_succ, List.set_cons_zero, List.set_cons_succ, Nat.sub_self, Nat.reduceSub, Nat.reduceAdd, if_true, Bool.false_eq_true, if_false, ite_true, ite_false, List.cons.injEq, and_false, false_and, true_and, and_true, decide_false, decide_true, Bool.not_true, Bool.not_false, Bool.true_and, Bool.false_and, Bool.and_true, Bool.and_false, Bool.or_false, Bool.or_true, Bool.false_or, Bool.true_or, Nat.reduceEqDiff, reduceCtorEq, eSl, pSome, pNone, lcT, wipeE, fits_0, fits_1, fits_2, fits_3, fits_4, e, z_lt]
    cases decide ((w : Int) < 2) <;> rfl) (by
    have : n = 0 ∨ n = 1 ∨ n = 2 ∨ n = 3 ∨ n = 4 ∨ n = 5 ∨ n = 6 ∨ n = 7 ∨ n = 8 := by omega
    rcases this with rfl | rfl | rfl | rfl | rfl | rfl | rfl | rfl | rfl <;> decide)
  have n3 : Nxt S2 (S2.push (.lst [])) := Nxt.push n2.1
  have hk0 : S2.len ≠ 0 := by have := n2.1.pos; omega
  have nS2 : Nxt S S2 := n1.trans n2
  have key := forS_inv (emb := D.str) (turn := turnS (gN 6) (sSeq (sSet 7 (eLc [9] (iRg1 (aCons (eVar 3) aNil)) (gN 9) (toB (eOp oEq (eCall 2 f_take (aCons (eVar 0) (aCons (eC (.int 2)) aNil))) (eC (.int 0)))) (eVar 9))) (sE (eMt tyL oAppend (eVar 5) (aCons (eTup (aCons (eVar 6) (aCons (eB oTuple (aCons (eIf (toB (eOp oNe (eVar 7) (eLst aNil))) (eVar 7) (eLst (aCons (eCall 2 f_take (aCons (eVar 0) (aCons (eVar 3) aNil))) aNil))) aNil)) aNil))) aNil)))))
    (fun done ρ S' => (∃ r6 r7, ρ = [some (.ref 0), some (.tup (names.map .str)), some (nD most), some (nD n), some (.tup (sm.map cpD)), some (.ref S2.len), r6, r7, none, none]) ∧ Nxt S2 S' ∧ ∃ zs : List Zn, zs.map (·.1) = done ∧ (∀ z ∈ zs, ZOk n z) ∧ S'.get S2.len = some (.lst (zs.map znD)))
    names [some (.ref 0), some (.tup (names.map .str)), some (nD most), some (nD n), some (.tup (sm.map cpD)), some (.ref S2.len), none, none, none, none] (S2.push (.lst [])) ?_ ⟨⟨none, none, rfl⟩, n3, [], rfl, by simp, Sto.get_push_self⟩
  · obtain ⟨ρ', S', e, ⟨r6, r7, eρ⟩, nx, zs, hz1, hz2, hz3⟩ := key
    refine ⟨n, sm, zs, S', ?_, by omega, by omega, hsub, hz1, hz2, nS2.trans nx⟩
    refine fn_rt ?_
    unfold m_map
    refine sq_nx (st_set (d := nD n) (S' := S1) ?_) ?_
    · simp only [fnS, env0, sSeq, sSet, sRet, sRetN, sIf, sE, sAsg, sPar, sNx, sPut, R.toS, R.bind, eVar, eC, eOp, eTup, eLst, eLstR, aCons, aNil, eIf, eAn, eOr, eNt, eIsi, toB, tNt, tAn, tOr_, tYs, eCall, eCall0, eB, eMt, eMt0, iSrc, iRg1, iRg2, iEn, iZp, gN, gT, gsCons, gsNil, turnS, List.map_cons, List.map_nil, List.length_cons, List.length_nil, List.replicate, List.cons_append, List.nil_append, List.getElem?_cons_zero, List.getElem?_cons_succ, List.set_cons_zero, List.set_cons_succ, Nat.sub_self, Nat.reduceSub, Nat.reduceAdd, if_true, Bool.false_eq_true, if_false, ite_true, ite_false, List.cons.injEq, and_false, false_and, true_and, and_true, decide_false, decide_true, Bool.not_true, Bool.not_false, Bool.true_and, Bool.false_and, Bool.and_true, Bool.and_false, Bool.or_false, Bool.or_true, Bool.false_or, Bool.true_or, Nat.reduceEqDiff, reduceCtorEq, eSl, pSome, pNone, lcT, wipeE, fits_0, fits_1, fits_2, fits_3, fits_4, env0, nD, e1, z_addI, en]
    refine sq_nx (st_set (d := .tup (sm.map cpD)) (S' := S2) ?_) ?_
    · show (eB oTuple (aCons _ aNil)) [some (.ref 0), some (.tup (names.map .str)), some (nD most), some (nD n), none, none, none, none, none, none] S1 = _
      revert e2
      generalize eLc _ _ _ _ _ = E
      intro e2
      simp only [fnS, env0, sSeq, sSet, sRet, sRetN, sIf, sE, sAsg, sPar, sNx, sPut, R.toS, R.bind, eVar, eC, eOp, eTup, eLst, eLstR, aCons, aNil, eIf, eAn, eOr, eNt, eIsi, toB, tNt, tAn, tOr_, tYs, eCall, eCall0, eB, eMt, eMt0, iSrc, iRg1, iRg2, iEn, iZp, gN, gT, gsCons, gsNil, turnS, List.map_cons, List.map_nil, List.length_cons, List.length_nil, List.replicate, List.cons_append, List.nil_append, List.getElem?_cons_zero, List.getElem?_cons_succ, List.set_cons_zero, List.set_cons_succ, Nat.sub_self, Nat.reduceSub, Nat.reduceAdd, if_true, Bool.false_eq_true, if_false, ite_true, ite_false, List.cons.injEq, and_false, false_and, true_and, and_true, decide_false, decide_true, Bool.not_true, Bool.not_false, Bool.true_and, Bool.false_and, Bool.and_true, Bool.and_false, Bool.or_false, Bool.or_true, Bool.false_or, Bool.true_or, Nat.reduceEqDiff, reduceCtorEq, eSl, pSome, pNone, lcT, wipeE, fits_0, fits_1, fits_2, fits_3, fits_4, e2]
      rfl
    refine sq_nx (st_set (d := .ref S2.len) (S' := S2.push (.lst [])) rfl) ?_
    refine sq_nx (st_for (S := S2.push (.lst [])) (ds := names.map .str) (by simp only [fnS, env0, sSeq, sSet, sRet, sRetN, sIf, sE, sAsg, sPar, sNx, sPut, R.toS, R.bind, eVar, eC, eOp, eTup, eLst, eLstR, aCons, aNil, eIf, eAn, eOr, eNt, eIsi, toB, tNt, tAn, tOr_, tYs, eCall, eCall0, eB, eMt, eMt0, iSrc, iRg1, iRg2, iEn, iZp, gN, gT, gsCons, gsNil, turnS, List.map_cons, List.map_nil, List.length_cons, List.length_nil, List.replicate, List.cons_append, List.nil_append, List.getElem?_cons_zero, List.getElem?_cons_succ, List.set_cons_zero, List.set_cons_succ, Nat.sub_self, Nat.reduceSub, Nat.reduceAdd, if_true, Bool.false_eq_true, if_false, ite_true, ite_false, List.cons.injEq, and_false, false_and, true_and, and_true, decide_false, decide_true, Bool.not_true, Bool.not_false, Bool.true_and, Bool.false_and, Bool.and_true, Bool.and_false, Bool.or_false, Bool.or_true, Bool.false_or, Bool.true_or, Nat.reduceEqDiff, reduceCtorEq, eSl, pSome, pNone, lcT, wipeE, fits_0, fits_1, fits_2, fits_3, fits_4, srcOf]) e) ?_
    subst eρ
    refine st_ret ?_
    simp only [fnS, env0, sSeq, sSet, sRet, sRetN, sIf, sE, sAsg, sPar, sNx, sPut, R.toS, R.bind, eVar, eC, eOp, eTup, eLst, eLstR, aCons, aNil, eIf, eAn, eOr, eNt, eIsi, toB, tNt, tAn, tOr_, tYs, eCall, eCall0, eB, eMt, eMt0, iSrc, iRg1, iRg2, iEn, iZp, gN, gT, gsCons, gsNil, turnS, List.map_cons, List.map_nil, List.length_cons, List.length_nil, List.replicate, List.cons_append, List.nil_append, List.getElem?_cons_zero, List.getElem?_cons_succ, List.set_cons_zero, List.set_cons_succ, Nat.sub_self, Nat.reduceSub, Nat.reduceAdd, if_true, Bool.false_eq_true, if_false, ite_true, ite_false, List.cons.injEq, and_false, false_and, true_and, and_true, decide_false, decide_true, Bool.not_true, Bool.not_false, Bool.true_and, Bool.false_and, Bool.and_true, Bool.and_false, Bool.or_false, Bool.or_true, Bool.false_or, Bool.true_or, Nat.reduceEqDiff, reduceCtorEq, eSl, pSome, pNone, lcT, wipeE, fits_0, fits_1, fits_2, fits_3, fits_4, tup_k hz3, show fits 3 = true from rfl, gmD]
  · rintro done x rest ρ S' hw ⟨⟨r6, r7, rfl⟩, nx, zs, hz1, hz2, hz3⟩
    have hlz : zs.length ≤ 100 := by
      have a := congrArg List.length hz1
      have b := congrArg List.length hw
      simp at a b
      omega
    have hkl : S2.len < S'.len := Sto.get_lt hz3
    obtain ⟨cs, S3, hcs, e3, nx3⟩ := eLc_sub (vs := [9]) (mi := iRg1 (aCons (eVar 3) aNil)) (g := gN 9) (t := toB (eOp oEq (eCall 2 f_take (aCons (eVar 0) (aCons (eC (.int 2)) aNil))) (eC (.int 0)))) (e := eVar 9) (ρ := [some (.ref 0), some (.tup (names.map .str)), some (nD most), some (nD n), some (.tup (sm.map cpD)), some (.ref S2.len), some (.str x), r7, none, none]) (S := S') (S1 := S') (emb := nD) (out := nD) (xs := List.range n) (rg1_nat (by simp only [fnS, env0, sSeq, sSet, sRet, sRetN, sIf, sE, sAsg, sPar, sNx, sPut, R.toS, R.bind, eVar, eC, eOp, eTup, eLst, eLstR, aCons, aNil, eIf, eAn, eOr, eNt, eIsi, toB, tNt, tAn, tOr_, tYs, eCall, eCall0, eB, eMt, eMt0, iSrc, iRg1, iRg2, iEn, iZp, gN, gT, gsCons, gsNil, turnS, List.map_cons, List.map_nil, List.length_cons, List.length_nil, List.replicate, List.cons_append, List.nil_append, List.getElem?_cons_zero, List.getElem?_cons_succ, List.set_cons_zero, List.set_cons_succ, Nat.sub_self, Nat.reduceSub, Nat.reduceAdd, if_true, Bool.false_eq_true, if_false, ite_true, ite_false, List.cons.injEq, and_false, false_and, true_and, and_true, decide_false, decide_true, Bool.not_true, Bool.not_false, Bool.true_and, Bool.false_and, Bool.and_true, Bool.and_false, Bool.or_false, Bool.or_true, Bool.false_or, Bool.true_or, Nat.reduceEqDiff, reduceCtorEq, eSl, pSome, pNone, lcT, wipeE, fits_0, fits_1, fits_2, fits_3, fits_4]) (by omega)) (Nxt.refl nx.1) (fun x hx S hS => by
      obtain ⟨w, S', e, _, nx⟩ := take_nat (many := 2) hS (by decide) (by decide)
      have e : f_take [.ref 0, .int 2] S = .ok (.int w) S' := e
      refine ⟨decide ((w : Int) = 0), S', ?_, nx⟩
      simp only [fnS, env0, sSeq, sSet, sRet, sRetN, sIf, sE, sAsg, sPar, sNx, sPut, R.toS, R.bind, eVar, eC, eOp, eTup, eLst, eLstR, aCons, aNil, eIf, eAn, eOr, eNt, eIsi, toB, tNt, tAn, tOr_, tYs, eCall, eCall0, eB, eMt, eMt0, iSrc, iRg1, iRg2, iEn, iZp, gN, gT, gsCons, gsNil, turnS, List.map_cons, List.map_nil, List.length_cons, List.length_nil, List.replicate, List.cons_append, List.nil_append, List.getElem?_cons_zero, List.getElem?_cons_succ, List.set_cons_zero, List.set_cons_succ, Nat.sub_self, Nat.reduceSub, Nat.reduceAdd, if_true, Bool.false_eq_true, if_false, ite_true, ite_false, List.cons.injEq, and_false, false_and, true_and, and_true, decide_false, decide_true, Bool.not_true, Bool.not_false, Bool.true_and, Bool.false_and, Bool.and_true, Bool.and_false, Bool.or_false, Bool.or_true, Bool.false_or, Bool.true_or, Nat.reduceEqDiff, reduceCtorEq, eSl, pSome, pNone, lcT, wipeE, fits_0, fits_1, fits_2, fits_3, fits_4, e, z_eqi]
      cases decide ((w : Int) = 0) <;> rfl) (by rw [List.length_range]; omega)
    have hz4 : S3.get S2.len = some (.lst (zs.map znD)) := (nx3.2.2 _ hkl hk0).trans hz3
    obtain ⟨cs', S4, hc1, hc2, hz5, nx4, e4⟩ : ∃ (cs' : List Nat) (S4 : Sto), cs' ≠ [] ∧ cs'.Sublist (List.range n) ∧ S4.get S2.len = some (.lst (zs.map znD)) ∧ Nxt S3 S4 ∧ eIf (toB (eOp oNe (eVar 7) (eLst aNil))) (eVar 7) (eLst (aCons (eCall 2 f_take (aCons (eVar 0) (aCons (eVar 3) aNil))) aNil)) [some (.ref 0), some (.tup (names.map .str)), some (nD most), some (nD n), some (.tup (sm.map cpD)), some (.ref S2.len), some (.str x), some (.lst (cs.map nD)), none, none] S3 = .ok (.lst (cs'.map nD)) S4 := by
      by_cases he : cs = []
      · subst he
        obtain ⟨w, S4, e, hw, nx4⟩ := take_nat (many := n) nx3.1 (by omega) (by omega)
        have e : f_take [.ref 0, nD n] S3 = .ok (.int w) S4 := e
        refine ⟨[w], S4, by simp, sub_one hw, (nx4.2.2 _ (Nat.lt_of_lt_of_le hkl nx3.2.1) hk0).trans hz4, nx4, ?_⟩
        simp only [fnS, env0, sSeq, sSet, sRet, sRetN, sIf, sE, sAsg, sPar, sNx, sPut, R.toS, R.bind, eVar, eC, eOp, eTup, eLst, eLstR, aCons, aNil, eIf, eAn, eOr, eNt, eIsi, toB, tNt, tAn, tOr_, tYs, eCall, eCall0, eB, eMt, eMt0, iSrc, iRg1, iRg2, iEn, iZp, gN, gT, gsCons, gsNil, turnS, List.map_cons, List.map_nil, List.length_cons, List.length_nil, List.replicate, List.cons_append, List.nil_append, List.getElem?_cons_zero, List.getElem?_cons_succ, List.set_cons_zero, List.set_cons_succ, Nat.sub_self, Nat.reduceSub, Nat.reduceAdd, if_true, Bool.false_eq_true, if_false, ite_true, ite_false, List.cons.injEq, and_false, false_and, true_and, and_true, decide_false, decide_true, Bool.not_true, Bool.not_false, Bool.true_and, Bool.false_and, Bool.and_true, Bool.and_false, Bool.or_false, Bool.or_true, Bool.false_or, Bool.true_or, Nat.reduceEqDiff, reduceCtorEq, eSl, pSome, pNone, lcT, wipeE, fits_0, fits_1, fits_2, fits_3, fits_4, show fits 0 = true from rfl, show ∀ S, oNe (.lst []) (.lst []) S = .ok (.bl false) S from fun _ => rfl, e, show fits 1 = true from rfl]
        rfl
      · refine ⟨cs, S3, he, hcs, hz4, Nxt.refl nx3.1, ?_⟩
        have : cs.isEmpty = false := by cases cs with
          | nil => exact absurd rfl he
          | cons _ _ => rfl
        simp only [fnS, env0, sSeq, sSet, sRet, sRetN, sIf, sE, sAsg, sPar, sNx, sPut, R.toS, R.bind, eVar, eC, eOp, eTup, eLst, eLstR, aCons, aNil, eIf, eAn, eOr, eNt, eIsi, toB, tNt, tAn, tOr_, tYs, eCall, eCall0, eB, eMt, eMt0, iSrc, iRg1, iRg2, iEn, iZp, gN, gT, gsCons, gsNil, turnS, List.map_cons, List.map_nil, List.length_cons, List.length_nil, List.replicate, List.cons_append, List.nil_append, List.getElem?_cons_zero, List.getElem?_cons_succ, List.set_cons_zero, List.set_cons_succ, Nat.sub_self, Nat.reduceSub, Nat.reduceAdd, if_true, Bool.false_eq_true, if_false, ite_true, ite_false, List.cons.injEq, and_false, false_and, true_and, and_true, decide_false, decide_true, Bool.not_true, Bool.not_false, Bool.true_and, Bool.false_and, Bool.and_true, Bool.and_false, Bool.or_false, Bool.or_true, Bool.false_or, Bool.true_or, Nat.reduceEqDiff, reduceCtorEq, eSl, pSome, pNone, lcT, wipeE, fits_0, fits_1, fits_2, fits_3, fits_4, show fits 0 = true from rfl, z_neN, this]
    have nxA : Nxt S2 S4 := nx.trans (nx3.trans nx4)
    refine ⟨[some (.ref 0), some (.tup (names.map .str)), some (nD most), some (nD n), some (.tup (sm.map cpD)), some (.ref S2.len), some (.str x), some (.lst (cs.map nD)), none, none], S4.set S2.len (.lst (zs.map znD ++ [znD (x, cs')])), ?_, ⟨_, _, rfl⟩, nxA.setk (Nat.le_refl _) hk0, zs ++ [(x, cs')], by rw [List.map_append, hz1]; rfl, ?_, ?_⟩
    · refine sq_nx (st_set (d := .lst (cs.map nD)) (S' := S3) e3) (st_e (d := .non) ?_)
      have ha : oAppend (.ref S2.len) [znD (x, cs')] S4 = .ok .non (S4.set S2.len (.lst (zs.map znD ++ [znD (x, cs')]))) := app_k hz5 (by rw [List.length_map]; omega)
      show (eMt tyL oAppend (eVar 5) (aCons (eTup (aCons (eVar 6) (aCons (eB oTuple (aCons _ aNil)) aNil))) aNil)) [some (.ref 0), some (.tup (names.map .str)), some (nD most), some (nD n), some (.tup (sm.map cpD)), some (.ref S2.len), some (.str x), some (.lst (cs.map nD)), none, none] S3 = _
      revert e4
      generalize eIf _ _ _ = E
      intro e4
      simp only [fnS, env0, sSeq, sSet, sRet, sRetN, sIf, sE, sAsg, sPar, sNx, sPut, R.toS, R.bind, eVar, eC, eOp, eTup, eLst, eLstR, aCons, aNil, eIf, eAn, eOr, eNt, eIsi, toB, tNt, tAn, tOr_, tYs, eCall, eCall0, eB, eMt, eMt0, iSrc, iRg1, iRg2, iEn, iZp, gN, gT, gsCons, gsNil, turnS, List.map_cons, List.map_nil, List.length_cons, List.length_nil, List.replicate, List.cons_append, List.nil_append, List.getElem?_cons_zero, List.getElem?_cons_succ, List.set_cons_zero, List.set_cons_succ, Nat.sub_self, Nat.reduceSub, Nat.reduceAdd, if_true, Bool.false_eq_true, if_false, ite_true, ite_false, List.cons.injEq, and_false, false_and, true_and, and_true, decide_false, decide_true, Bool.not_true, Bool.not_false, Bool.true_and, Bool.false_and, Bool.and_true, Bool.and_false, Bool.or_false, Bool.or_true, Bool.false_or, Bool.true_or, Nat.reduceEqDiff, reduceCtorEq, eSl, pSome, pNone, lcT, wipeE, fits_0, fits_1, fits_2, fits_3, fits_4, tyL_k hz4, e4, show ∀ l S, oTuple [.lst l] S = .ok (.tup l) S from fun _ _ => rfl, show fits 2 = true from rfl]
      exact ha
    · intro z hz
      rcases List.mem_append.mp hz with h | h
      · exact hz2 z h
      · rw [List.mem_singleton] at h; subst h; exact ⟨hc1, hc2⟩
    · rw [List.map_append]
      exact Sto.get_set_self nxA.1.1 (Nat.lt_of_lt_of_le hkl (Nat.le_trans nx3.2.1 nx4.2.1))
end Z

namespace Zk24
open PySem PySem.Spec PyProof PyProof.Rows L2 Z
def m_law_bag : C := (sRet (eBag (aCons (eC (.int 0)) (aCons (eC (.int 1234567891)) (aCons (eC (.int 0)) (aCons (eLc [1] (iSrc (eSl (eVar 0) pNone (pSome (eC (.int 63))))) (gN 1) tYs (eB oAbs (aCons (eVar 1) aNil))) aNil))))))
def f_law_bag : Fn := (fnS 1 2 m_law_bag)
def m_law_take : C := (sSeq (sIf (toB (eOp oEq (eOp oIx (eVar 0) (eC (.int 0))) (eC (.int 0)))) (sSeq (sSet 4 (eOp oIx (eOp oAdd (eSl (eOp oIx (eVar 0) (eC (.int 3))) (pSome (eOp oIx (eVar 0) (eC (.int 2)))) pNone) (eLst (aCons (eC (.int 0)) aNil))) (eC (.int 0)))) (sSeq (sAugS (eVar 0) (eC (.int 2)) (eC (.int 1)) oAddI) (sSeq (sIf (toB (eOp (oCmp .GtE) (eVar 4) (eOp oPow (eC (.int 10)) (eC (.int 18))))) (sPut (eVar 4) (eVar 0) (eC (.int 0))) sNx) (sSeq (sSet 5 (eOp oAdd (eOp oAdd (eOp oMul (eOp oIx (eVar 0) (eC (.int 1))) (eC (.int 48271))) (eOp oMod (eB oInt (aCons (eVar 4) aNil)) (eC (.int 2147483647)))) (eOp oMul (eC (.int 7919)) (eOp oIx (eVar 0) (eC (.int 2)))))) (sPut (eOp oMod (eB oInt (aCons (eVar 5) aNil)) (eC (.int 2147483647))) (eVar 0) (eC (.int 1))))))) sNx) (sSeq (sIf (toB (eOp (oCmp .Gt) (eOp oIx (eVar 0) (eC (.int 0))) (eC (.int 0)))) (sSeq (sSet 6 (eOp oMod (eB oInt (aCons (eOp oIx (eVar 0) (eC (.int 0))) aNil)) (eVar 1))) (sSeq (sPut (eOp oDiv (eB oInt (aCons (eOp oIx (eVar 0) (eC (.int 0))) aNil)) (eVar 1)) (eVar 0) (eC (.int 0))) (sRet (eVar 6)))) sNx) (sSeq (sSet 2 (eOp oMod (eB oInt (aCons (eOp oMul (eOp oAdd (eOp oIx (eVar 0) (eC (.int 1))) (eC (.int 1))) (eC (.int 39373))) aNil)) (eC (.int 1000000007)))) (sSeq (sSet 3 (eOp oMod (eB oInt (aCons (eOp oMul (eOp oMod (eB oInt (aCons (eOp oMul (eVar 2) (eVar 2)) aNil)) (eC (.int 998244353))) (eC (.int 30011))) aNil)) (eC (.int 998244353)))) (sRet (eOp oMod (eB oInt (aCons (eOp oDiv (eVar 3) (eC (.int 7))) aNil)) (eVar 1)))))))
def f_law_take : Fn := (fnS 2 7 m_law_take)
def m_law_couples : C := (sSeq (sSet 1 (eLstR aNil)) (sSeq (sFor (iRg1 (aCons (eVar 0) aNil)) (gN 2) (sE (eMt tyL oExtend (eVar 1) (aCons (eLc [3] (iRg2 (aCons (eOp oAdd (eVar 2) (eC (.int 1))) (aCons (eVar 0) aNil))) (gN 3) tYs (eTup (aCons (eVar 2) (aCons (eVar 3) aNil)))) aNil)))) (sRet (eVar 1))))
def f_law_couples : Fn := fnA (fnS 1 4 m_law_couples)
def m_law_map : C := (sSeq (sSet 3 (eOp oAdd (eC (.int 1)) (eCall 2 f_law_take (aCons (eVar 0) (aCons (eVar 2) aNil))))) (sSeq (sSet 4 (eB oTuple (aCons (eLc [8] (iSrc (eCall 1 f_law_couples (aCons (eVar 3) aNil))) (gN 8) (toB (eOp (oCmp .Lt) (eCall 2 f_law_take (aCons (eVar 0) (aCons (eC (.int 5)) aNil))) (eC (.int 2)))) (eVar 8)) aNil))) (sSeq (sSet 5 (eLstR aNil)) (sSeq (sFor (iSrc (eVar 1)) (gN 6) (sSeq (sSet 7 (eLc [9] (iRg1 (aCons (eVar 3) aNil)) (gN 9) (toB (eOp oEq (eCall 2 f_law_take (aCons (eVar 0) (aCons (eC (.int 2)) aNil))) (eC (.int 0)))) (eVar 9))) (sE (eMt tyL oAppend (eVar 5) (aCons (eTup (aCons (eVar 6) (aCons (eB oTuple (aCons (eIf (toB (eOp oNe (eVar 7) (eLst aNil))) (eVar 7) (eLst (aCons (eCall 2 f_law_take (aCons (eVar 0) (aCons (eVar 3) aNil))) aNil))) aNil)) aNil))) aNil))))) (sRet (eTup (aCons (eVar 3) (aCons (eVar 4) (aCons (eB oTuple (aCons (eVar 5) aNil)) aNil)))))))))
def f_law_map : Fn := (fnS 3 10 m_law_map)
def m_law_some : C := (sRet (eOp oIx (eVar 1) (eCall 2 f_law_take (aCons (eVar 0) (aCons (eB oLen (aCons (eVar 1) aNil)) aNil)))))
def f_law_some : Fn := (fnS 2 2 m_law_some)
def m_law_term (r : Fn) : C := (sSeq (sSet 3 (eIf (toB (eOp (oCmp .Gt) (eVar 2) (eC (.int 0)))) (eCall 2 f_law_take (aCons (eVar 0) (aCons (eC (.int 8)) aNil))) (eCall 2 f_law_take (aCons (eVar 0) (aCons (eC (.int 4)) aNil))))) (sSeq (sIf (toB (eOp (oCmp .Lt) (eVar 3) (eC (.int 3)))) (sRet (eTup (aCons (eC (.str [122, 111, 110, 101])) (aCons (eCall 2 f_law_some (aCons (eVar 0) (aCons (eB oList (aCons (eVar 1) aNil)) aNil))) aNil)))) sNx) (sSeq (sIf (toB (eOp oEq (eVar 3) (eC (.int 3)))) (sRet (eCall 2 f_law_some (aCons (eVar 0) (aCons (eLst (aCons (eTup (aCons (eC (.str [97, 108, 108])) aNil)) (aCons (eTup (aCons (eC (.str [110, 111, 110, 101])) aNil)) (aCons (eTup (aCons (eC (.str [122, 111, 110, 101])) (aCons (eOp oIx (eVar 1) (eC (.int 0))) aNil))) aNil)))) aNil)))) sNx) (sSeq (sIf (toB (eOp oEq (eVar 3) (eC (.int 4)))) (sRet (eTup (aCons (eC (.str [110, 111, 116])) (aCons (eCall 3 r (aCons (eVar 0) (aCons (eVar 1) (aCons (eOp oSub (eVar 2) (eC (.int 1))) aNil)))) aNil)))) sNx) (sSeq (sSet 4 (eCall 2 f_law_some (aCons (eVar 0) (aCons (eLst (aCons (eC (.str [97, 110, 100])) (aCons (eC (.str [111, 114])) aNil))) aNil)))) (sRet (eOp oAdd (eTup (aCons (eVar 4) aNil)) (eB oTuple (aCons (eLc [5] (iRg1 (aCons (eOp oAdd (eC (.int 2)) (eCall 2 f_law_take (aCons (eVar 0) (aCons (eC (.int 2)) aNil)))) aNil)) (gN 5) tYs (eCall 3 r (aCons (eVar 0) (aCons (eVar 1) (aCons (eOp oSub (eVar 2) (eC (.int 1))) aNil))))) aNil)))))))))
def f_law_term : Nat → Fn
  | 0 => fn0
  | n + 1 => (fnS 3 6 (m_law_term (f_law_term n)))
def m_law_wish : C := (sSeq (sSet 2 (eCall 2 f_law_some (aCons (eVar 0) (aCons (eLst (aCons (eC (.str [115, 111, 109, 101])) (aCons (eC (.str [110, 111])) (aCons (eC (.str [115, 101, 97, 109])) (aCons (eC (.str [97, 112, 97, 114, 116])) aNil))))) aNil)))) (sSeq (sIf (toB (eOp oIn (eVar 2) (eTup (aCons (eC (.str [115, 111, 109, 101])) (aCons (eC (.str [110, 111])) aNil))))) (sRet (eTup (aCons (eVar 2) (aCons (eCall 3 (f_law_term 4) (aCons (eVar 0) (aCons (eVar 1) (aCons (eC (.int 2)) aNil)))) aNil)))) sNx) (sRet (eTup (aCons (eVar 2) (aCons (eCall 3 (f_law_term 4) (aCons (eVar 0) (aCons (eVar 1) (aCons (eC (.int 1)) aNil)))) (aCons (eCall 3 (f_law_term 4) (aCons (eVar 0) (aCons (eVar 1) (aCons (eC (.int 1)) aNil)))) aNil)))))))
def f_law_wish : Fn := (fnS 2 3 m_law_wish)
def m_law_member : C := (sRet (eB oTuple (aCons (eLc [2, 3] (iSrc (eOp oIx (eVar 0) (eC (.int 2)))) (gT 2 (gsCons (gN 2) (gsCons (gN 3) gsNil))) (toB (eOp oIn (eVar 1) (eVar 3))) (eVar 2)) aNil)))
def f_law_member : Fn := fnA (fnS 2 4 m_law_member)
def m_law_is_in (r : Fn) : C := (sSeq (sSet 2 (eOp oIx (eVar 0) (eC (.int 0)))) (sSeq (sIf (toB (eOp oEq (eVar 2) (eC (.str [122, 111, 110, 101])))) (sRet (eOp oIn (eOp oIx (eVar 0) (eC (.int 1))) (eVar 1))) sNx) (sSeq (sIf (toB (eOp oIn (eVar 2) (eTup (aCons (eC (.str [97, 108, 108])) (aCons (eC (.str [110, 111, 110, 101])) aNil))))) (sRet (eOp oEq (eVar 2) (eC (.str [97, 108, 108])))) sNx) (sSeq (sIf (toB (eOp oEq (eVar 2) (eC (.str [110, 111, 116])))) (sRet (eNt (eCall 2 r (aCons (eOp oIx (eVar 0) (eC (.int 1))) (aCons (eVar 1) aNil))))) sNx) (sSeq (sSet 3 (eLc [4] (iSrc (eSl (eVar 0) (pSome (eC (.int 1))) pNone)) (gN 4) tYs (eCall 2 r (aCons (eVar 4) (aCons (eVar 1) aNil))))) (sRet (eIf (toB (eOp oEq (eVar 2) (eC (.str [97, 110, 100])))) (eOp oNotIn (eC (.bl false)) (eVar 3)) (eOp oIn (eC (.bl true)) (eVar 3)))))))))
def f_law_is_in : Nat → Fn
  | 0 => fn0
  | n + 1 => fnA (fnS 2 5 (m_law_is_in (f_law_is_in n)))
def m_law_keeps : C := (sSeq (sSet 2 (eOp oIx (eVar 1) (eC (.int 0)))) (sSeq (sIf (toB (eOp oIn (eVar 2) (eTup (aCons (eC (.str [115, 111, 109, 101])) (aCons (eC (.str [110, 111])) aNil))))) (sSeq (sSet 3 (eLc [8] (iRg1 (aCons (eOp oIx (eVar 0) (eC (.int 0))) aNil)) (gN 8) (toB (eCall 2 (f_law_is_in 8) (aCons (eOp oIx (eVar 1) (eC (.int 1))) (aCons (eCall 2 f_law_member (aCons (eVar 0) (aCons (eVar 8) aNil))) aNil)))) (eVar 8))) (sRet (eOp oEq (eOp oNe (eVar 3) (eLst aNil)) (eOp oEq (eVar 2) (eC (.str [115, 111, 109, 101])))))) sNx) (sSeq (sSet 3 (eC (.bl false))) (sSeq (sFor (iSrc (eOp oIx (eVar 0) (eC (.int 1)))) (gT 2 (gsCons (gN 4) (gsCons (gN 5) gsNil))) (sSeq (sPar 6 7 (aCons (eCall 2 f_law_member (aCons (eVar 0) (aCons (eVar 4) aNil))) (aCons (eCall 2 f_law_member (aCons (eVar 0) (aCons (eVar 5) aNil))) aNil))) (sSeq (sSet 3 (eOr (eVar 3) (eAn (eCall 2 (f_law_is_in 8) (aCons (eOp oIx (eVar 1) (eC (.int 1))) (aCons (eVar 6) aNil))) (eCall 2 (f_law_is_in 8) (aCons (eOp oIx (eVar 1) (eC (.int 2))) (aCons (eVar 7) aNil)))))) (sSet 3 (eOr (eVar 3) (eAn (eCall 2 (f_law_is_in 8) (aCons (eOp oIx (eVar 1) (eC (.int 1))) (aCons (eVar 7) aNil))) (eCall 2 (f_law_is_in 8) (aCons (eOp oIx (eVar 1) (eC (.int 2))) (aCons (eVar 6) aNil))))))))) (sRet (eOp oEq (eVar 3) (eOp oEq (eVar 2) (eC (.str [115, 101, 97, 109])))))))))
def f_law_keeps : Fn := fnA (fnS 2 9 m_law_keeps)
def m_law_seams_of : C := (sSeq (sSet 3 (eLstR aNil)) (sSeq (sFor (iSrc (eOp oIx (eVar 0) (eC (.int 1)))) (gT 2 (gsCons (gN 4) (gsCons (gN 5) gsNil))) (sE (eMt tyL oExtend (eVar 3) (aCons (eIf (tOr_ (tAn (toB (eOp oIn (eVar 4) (eVar 1))) (toB (eOp oIn (eVar 5) (eVar 2)))) (tAn (toB (eOp oIn (eVar 5) (eVar 1))) (toB (eOp oIn (eVar 4) (eVar 2))))) (eLst (aCons (eTup (aCons (eVar 4) (aCons (eVar 5) aNil))) aNil)) (eLst aNil)) aNil)))) (sRet (eB oTuple (aCons (eVar 3) aNil)))))
def f_law_seams_of : Fn := fnA (fnS 3 6 m_law_seams_of)
def m_law_cells_of : C := (sRet (eB oTuple (aCons (eLc [2] (iRg1 (aCons (eOp oIx (eVar 0) (eC (.int 0))) aNil)) (gN 2) (toB (eCall 2 (f_law_is_in 8) (aCons (eVar 1) (aCons (eCall 2 f_law_member (aCons (eVar 0) (aCons (eVar 2) aNil))) aNil)))) (eVar 2)) aNil)))
def f_law_cells_of : Fn := fnA (fnS 2 3 m_law_cells_of)
def m_law_shown : C := (sSeq (sIf (toB (eOp oIn (eOp oIx (eVar 1) (eC (.int 0))) (eTup (aCons (eC (.str [115, 111, 109, 101])) (aCons (eC (.str [110, 111])) aNil))))) (sRet (eCall 2 f_law_cells_of (aCons (eVar 0) (aCons (eOp oIx (eVar 1) (eC (.int 1))) aNil)))) sNx) (sRet (eCall 3 f_law_seams_of (aCons (eVar 0) (aCons (eCall 2 f_law_cells_of (aCons (eVar 0) (aCons (eOp oIx (eVar 1) (eC (.int 1))) aNil))) (aCons (eCall 2 f_law_cells_of (aCons (eVar 0) (aCons (eOp oIx (eVar 1) (eC (.int 2))) aNil))) aNil))))))
def f_law_shown : Fn := fnA (fnS 2 2 m_law_shown)
def m_law_is_int : C := (sRet (eAn (eIsi .int (eVar 0)) (eNt (eIsi .bool (eVar 0)))))
def f_law_is_int : Fn := fnA (fnS 1 1 m_law_is_int)
def m_law_is_count : C := (sRet (eAn (eCall 1 f_law_is_int (aCons (eVar 0) aNil)) (eOp (oCmp .GtE) (eVar 0) (eC (.int 0)))))
def f_law_is_count : Fn := fnA (fnS 1 1 m_law_is_count)
def m_law_is_shown : C := (sSeq (sIf (toB (eOp oIn (eOp oIx (eVar 1) (eC (.int 0))) (eTup (aCons (eC (.str [115, 111, 109, 101])) (aCons (eC (.str [110, 111])) aNil))))) (sRet (eAn (eCall 1 f_law_is_count (aCons (eVar 2) aNil)) (eOp oIn (eVar 2) (eCall 2 f_law_shown (aCons (eVar 0) (aCons (eVar 1) aNil)))))) sNx) (sSeq (sIf (tOr_ (tNt (toB (eIsi .tuple (eVar 2)))) (tOr_ (toB (eOp oNe (eB oLen (aCons (eVar 2) aNil)) (eC (.int 2)))) (tOr_ (tNt (toB (eCall 1 f_law_is_count (aCons (eOp oIx (eVar 2) (eC (.int 0))) aNil)))) (tNt (toB (eCall 1 f_law_is_count (aCons (eOp oIx (eVar 2) (eC (.int 1))) aNil))))))) (sRet (eC (.bl false))) sNx) (sRet (eOp oIn (eVar 2) (eCall 2 f_law_shown (aCons (eVar 0) (aCons (eVar 1) aNil)))))))
def f_law_is_shown : Fn := fnA (fnS 3 3 m_law_is_shown)
def m_law_is_paper : C := (sSeq (sIf (tOr_ (tNt (toB (eIsi .tuple (eVar 2)))) (tOr_ (toB (eOp oEq (eVar 2) (eTup aNil))) (tNt (toB (eIsi .str (eOp oIx (eVar 2) (eC (.int 0)))))))) (sRet (eC (.bl false))) sNx) (sSeq (sIf (toB (eOp oEq (eOp oIx (eVar 2) (eC (.int 0))) (eC (.str [107, 101, 112, 116])))) (sSeq (sIf (tOr_ (toB (eOp oNe (eB oLen (aCons (eVar 2) aNil)) (eC (.int 2)))) (tOr_ (tNt (toB (eIsi .tuple (eOp oIx (eVar 2) (eC (.int 1)))))) (toB (eOp oNe (eB oLen (aCons (eOp oIx (eVar 2) (eC (.int 1))) aNil)) (eB oLen (aCons (eVar 1) aNil)))))) (sRet (eC (.bl false))) sNx) (sSeq (sFor (iZp (aCons (eVar 1) (aCons (eOp oIx (eVar 2) (eC (.int 1))) aNil))) (gT 2 (gsCons (gN 3) (gsCons (gN 4) gsNil))) (sIf (tOr_ (tAn (toB (eOp oIn (eOp oIx (eVar 3) (eC (.int 0))) (eTup (aCons (eC (.str [115, 111, 109, 101])) (aCons (eC (.str [115, 101, 97, 109])) aNil))))) (tNt (toB (eCall 3 f_law_is_shown (aCons (eVar 0) (aCons (eVar 3) (aCons (eVar 4) aNil))))))) (tAn (toB (eOp oIn (eOp oIx (eVar 3) (eC (.int 0))) (eTup (aCons (eC (.str [110, 111])) (aCons (eC (.str [97, 112, 97, 114, 116])) aNil))))) (tOr_ (toB (eOp oIsNot (eVar 4) (eC .non))) (tNt (toB (eCall 2 f_law_keeps (aCons (eVar 0) (aCons (eVar 3) aNil)))))))) (sRet (eC (.bl false))) sNx)) (sRet (eC (.bl true))))) sNx) (sSeq (sIf (tOr_ (toB (eOp oNe (eOp oIx (eVar 2) (eC (.int 0))) (eC (.str [98, 114, 111, 107, 101, 110])))) (tOr_ (toB (eOp oNe (eB oLen (aCons (eVar 2) aNil)) (eC (.int 3)))) (tOr_ (tNt (toB (eCall 1 f_law_is_count (aCons (eOp oIx (eVar 2) (eC (.int 1))) aNil)))) (toB (eOp (oCmp .GtE) (eOp oIx (eVar 2) (eC (.int 1))) (eB oLen (aCons (eVar 1) aNil))))))) (sRet (eC (.bl false))) sNx) (sSeq (sSet 3 (eOp oIx (eVar 1) (eOp oIx (eVar 2) (eC (.int 1))))) (sSeq (sIf (toB (eCall 2 f_law_keeps (aCons (eVar 0) (aCons (eVar 3) aNil)))) (sRet (eC (.bl false))) sNx) (sRet (eIf (toB (eOp oIn (eOp oIx (eVar 3) (eC (.int 0))) (eTup (aCons (eC (.str [115, 111, 109, 101])) (aCons (eC (.str [115, 101, 97, 109])) aNil))))) (eOp oIs (eOp oIx (eVar 2) (eC (.int 2))) (eC .non)) (eCall 3 f_law_is_shown (aCons (eVar 0) (aCons (eVar 3) (aCons (eOp oIx (eVar 2) (eC (.int 2))) aNil)))))))))))
def f_law_is_paper : Fn := fnA (fnS 3 5 m_law_is_paper)
def f_law_alike : Fn := alike
def m_asks : C := (sRet (eOp oIn (eOp oIx (eVar 0) (eC (.int 0))) (eTup (aCons (eC (.str [115, 111, 109, 101])) (aCons (eC (.str [115, 101, 97, 109])) aNil)))))
def f_asks : Fn := fnA (fnS 1 1 m_asks)
def m_names_of : C := (sRet (eB oTuple (aCons (eLc [1, 2] (iSrc (eOp oIx (eVar 0) (eC (.int 2)))) (gT 2 (gsCons (gN 1) (gsCons (gN 2) gsNil))) tYs (eVar 1)) aNil)))
def f_names_of : Fn := fnA (fnS 1 3 m_names_of)
def m_inner : C := (sRet (eIf (toB (eOp oIn (eOp oIx (eVar 0) (eC (.int 0))) (eTup (aCons (eC (.str [110, 111, 116])) (aCons (eC (.str [97, 110, 100])) (aCons (eC (.str [111, 114])) aNil)))))) (eSl (eVar 0) (pSome (eC (.int 1))) pNone) (eTup aNil)))
def f_inner : Fn := fnA (fnS 1 1 m_inner)
def m_parts_of : C := (sSeq (sPar 1 2 (aCons (eLstR aNil) (aCons (eLstR (aCons (eTup (aCons (eTup aNil) (aCons (eVar 0) aNil))) aNil)) aNil))) (sSeq (whileS (toB (eOp oNe (eVar 2) (eLst aNil))) (sSeq (sAsg (gT 2 (gsCons (gN 3) (gsCons (gN 4) gsNil))) (eMt0 tyL oPop (eVar 2))) (sSeq (sE (eMt tyL oAppend (eVar 1) (aCons (eTup (aCons (eVar 3) (aCons (eVar 4) aNil))) aNil))) (sE (eMt tyL oExtend (eVar 2) (aCons (eRev (eLc [5, 6] (iEn (aCons (eCall 1 f_inner (aCons (eVar 4) aNil)) aNil)) (gT 2 (gsCons (gN 5) (gsCons (gN 6) gsNil))) tYs (eTup (aCons (eOp oAdd (eVar 3) (eTup (aCons (eOp oAdd (eVar 5) (eC (.int 1))) aNil))) (aCons (eVar 6) aNil))))) aNil))))) 1000) (sRet (eB oTuple (aCons (eVar 1) aNil)))))
def f_parts_of : Fn := fnA (fnS 1 7 m_parts_of)
def m_truth_of : C := (sSeq (sIf (toB (eOp oEq (eOp oIx (eVar 0) (eC (.int 0))) (eC (.str [122, 111, 110, 101])))) (sRet (eOp oIn (eOp oIx (eVar 0) (eC (.int 1))) (eVar 2))) sNx) (sSeq (sIf (toB (eOp oEq (eOp oIx (eVar 0) (eC (.int 0))) (eC (.str [110, 111, 116])))) (sRet (eNt (eOp oIx (eVar 1) (eC (.int 0))))) sNx) (sSeq (sIf (toB (eOp oEq (eOp oIx (eVar 0) (eC (.int 0))) (eC (.str [97, 110, 100])))) (sRet (eB oAll (aCons (eVar 1) aNil))) sNx) (sRet (eIf (toB (eOp oEq (eOp oIx (eVar 0) (eC (.int 0))) (eC (.str [111, 114])))) (eB oAny (aCons (eVar 1) aNil)) (eOp oEq (eOp oIx (eVar 0) (eC (.int 0))) (eC (.str [97, 108, 108]))))))))
def f_truth_of : Fn := fnA (fnS 3 3 m_truth_of)
def m_is_in_by : C := (sSeq (sSet 2 (eLst aNil)) (sSeq (sFor (iSrc (eRev (eCall 1 f_parts_of (aCons (eVar 0) aNil)))) (gT 2 (gsCons (gN 3) (gsCons (gN 4) gsNil))) (sSeq (sSet 5 (eB oLen (aCons (eCall 1 f_inner (aCons (eVar 4) aNil)) aNil))) (sSeq (sSet 6 (eSl (eVar 2) (pSome (eOp oSub (eB oLen (aCons (eVar 2) aNil)) (eVar 5))) pNone)) (sSet 2 (eOp oAdd (eSl (eVar 2) pNone (pSome (eOp oSub (eB oLen (aCons (eVar 2) aNil)) (eVar 5)))) (eLst (aCons (eCall 3 f_truth_of (aCons (eVar 4) (aCons (eVar 6) (aCons (eVar 1) aNil)))) aNil))))))) (sRet (eOp oIx (eVar 2) (eC (.int 0))))))
def f_is_in_by : Fn := fnA (fnS 2 7 m_is_in_by)
def m_names_in : C := (sRet (eB oTuple (aCons (eB oSortDS (aCons (eDc [1, 2] (iSrc (eCall 1 f_parts_of (aCons (eVar 0) aNil))) (gT 2 (gsCons (gN 1) (gsCons (gN 2) gsNil))) (toB (eOp oEq (eOp oIx (eVar 2) (eC (.int 0))) (eC (.str [122, 111, 110, 101])))) (eOp oIx (eVar 2) (eC (.int 1))) (eC (.bl true))) aNil)) aNil)))
def f_names_in : Fn := fnA (fnS 1 3 m_names_in)
def m_memberships : C := (sSeq (sSet 1 (eLc [5] (iRg1 (aCons (eOp oIx (eVar 0) (eC (.int 0))) aNil)) (gN 5) tYs (eLstR aNil))) (sSeq (sFor (iSrc (eOp oIx (eVar 0) (eC (.int 2)))) (gT 2 (gsCons (gN 2) (gsCons (gN 3) gsNil))) (sFor (iSrc (eVar 3)) (gN 4) (sE (eMt tyL oAppend (eOp oIx (eVar 1) (eVar 4)) (aCons (eVar 2) aNil))))) (sRet (eB oTuple (aCons (eLc [6] (iSrc (eVar 1)) (gN 6) tYs (eB oTuple (aCons (eVar 6) aNil))) aNil)))))
def f_memberships : Fn := fnA (fnS 1 7 m_memberships)
def m_cells_of : C := (sSeq (sSet 2 (eCall 1 f_names_of (aCons (eVar 0) aNil))) (sSeq (sIf (tNt (toB (eB oAll (aCons (eLc [3] (iSrc (eCall 1 f_names_in (aCons (eVar 1) aNil))) (gN 3) tYs (eOp oIn (eVar 3) (eVar 2))) aNil)))) sBad sNx) (sRet (eB oTuple (aCons (eLc [4, 5] (iEn (aCons (eCall 1 f_memberships (aCons (eVar 0) aNil)) aNil)) (gT 2 (gsCons (gN 4) (gsCons (gN 5) gsNil))) (toB (eCall 2 f_is_in_by (aCons (eVar 1) (aCons (eVar 5) aNil)))) (eVar 4)) aNil)))))
def f_cells_of : Fn := fnA (fnS 2 6 m_cells_of)
def m_is_integer : C := (sRet (eAn (eIsi .int (eVar 0)) (eNt (eIsi .bool (eVar 0)))))
def f_is_integer : Fn := fnA (fnS 1 1 m_is_integer)
def m_is_count : C := (sRet (eAn (eCall 1 f_is_integer (aCons (eVar 0) aNil)) (eOp (oCmp .GtE) (eVar 0) (eC (.int 0)))))
def f_is_count : Fn := fnA (fnS 1 1 m_is_count)
def m_is_counts : C := (sRet (eAn (eIsi .tuple (eVar 0)) (eB oAll (aCons (eLc [1] (iSrc (eVar 0)) (gN 1) tYs (eCall 1 f_is_count (aCons (eVar 1) aNil))) aNil))))
def f_is_counts : Fn := fnA (fnS 1 2 m_is_counts)
def m_check_cells : C := (sIf (tOr_ (tNt (toB (eCall 1 f_is_counts (aCons (eVar 1) aNil)))) (tNt (toB (eB oAll (aCons (eLc [2] (iSrc (eVar 1)) (gN 2) tYs (eOp (oCmp .Lt) (eVar 2) (eOp oIx (eVar 0) (eC (.int 0))))) aNil))))) sBad sNx)
def f_check_cells : Fn := fnA (fnS 2 3 m_check_cells)
def m_seams_between : C := (sSeq (sE (eCall 2 f_check_cells (aCons (eVar 0) (aCons (eVar 1) aNil)))) (sSeq (sE (eCall 2 f_check_cells (aCons (eVar 0) (aCons (eVar 2) aNil)))) (sSeq (sPar 4 5 (aCons (eDc [8] (iSrc (eVar 1)) (gN 8) tYs (eVar 8) (eC (.bl true))) (aCons (eDc [8] (iSrc (eVar 2)) (gN 8) tYs (eVar 8) (eC (.bl true))) aNil))) (sSeq (sSet 3 (eLstR aNil)) (sSeq (sFor (iSrc (eOp oIx (eVar 0) (eC (.int 1)))) (gT 2 (gsCons (gN 6) (gsCons (gN 7) gsNil))) (sIf (tOr_ (tAn (toB (eOp oIn (eVar 6) (eVar 4))) (toB (eOp oIn (eVar 7) (eVar 5)))) (tAn (toB (eOp oIn (eVar 7) (eVar 4))) (toB (eOp oIn (eVar 6) (eVar 5))))) (sE (eMt tyL oAppend (eVar 3) (aCons (eTup (aCons (eVar 6) (aCons (eVar 7) aNil))) aNil))) sNx)) (sRet (eB oTuple (aCons (eVar 3) aNil))))))))
def f_seams_between : Fn := fnA (fnS 3 9 m_seams_between)
def m_shown_by : C := (sSeq (sSet 2 (eLc [4] (iSrc (eSl (eVar 1) (pSome (eC (.int 1))) pNone)) (gN 4) tYs (eCall 2 f_cells_of (aCons (eVar 0) (aCons (eVar 4) aNil))))) (sSeq (sSet 3 (eIf (toB (eOp oEq (eB oLen (aCons (eVar 2) aNil)) (eC (.int 1)))) (eOp oIx (eVar 2) (eC (.int 0))) (eCall 3 f_seams_between (aCons (eVar 0) (aCons (eOp oIx (eVar 2) (eC (.int 0))) (aCons (eOp oIx (eVar 2) (eC (.int 1))) aNil)))))) (sRet (eIf (toB (eOp oNe (eVar 3) (eTup aNil))) (eOp oIx (eVar 3) (eC (.int 0))) (eC .non)))))
def f_shown_by : Fn := fnA (fnS 2 5 m_shown_by)
def m_keeps : C := (sRet (eOp oNe (eOp oIs (eCall 2 f_shown_by (aCons (eVar 0) (aCons (eVar 1) aNil))) (eC .non)) (eCall 1 f_asks (aCons (eVar 1) aNil))))
def f_keeps : Fn := fnA (fnS 2 2 m_keeps)
def m_all_broken : C := (sRet (eB oTuple (aCons (eLc [2, 3] (iEn (aCons (eVar 1) aNil)) (gT 2 (gsCons (gN 2) (gsCons (gN 3) gsNil))) (tNt (toB (eCall 2 f_keeps (aCons (eVar 0) (aCons (eVar 3) aNil))))) (eVar 2)) aNil)))
def f_all_broken : Fn := fnA (fnS 2 4 m_all_broken)
def m_is_couple : C := (sRet (eAn (eIsi .tuple (eVar 0)) (eAn (eOp oEq (eB oLen (aCons (eVar 0) aNil)) (eC (.int 2))) (eAn (eCall 1 f_is_count (aCons (eOp oIx (eVar 0) (eC (.int 0))) aNil)) (eCall 1 f_is_count (aCons (eOp oIx (eVar 0) (eC (.int 1))) aNil))))))
def f_is_couple : Fn := fnA (fnS 1 1 m_is_couple)
def m_is_shown : C := (sSeq (sSet 3 (eLc [4] (iSrc (eSl (eVar 1) (pSome (eC (.int 1))) pNone)) (gN 4) tYs (eCall 2 f_cells_of (aCons (eVar 0) (aCons (eVar 4) aNil))))) (sSeq (sIf (toB (eOp oEq (eB oLen (aCons (eVar 3) aNil)) (eC (.int 1)))) (sRet (eAn (eCall 1 f_is_count (aCons (eVar 2) aNil)) (eOp oIn (eVar 2) (eOp oIx (eVar 3) (eC (.int 0)))))) sNx) (sRet (eAn (eCall 1 f_is_couple (aCons (eVar 2) aNil)) (eOp oIn (eVar 2) (eCall 3 f_seams_between (aCons (eVar 0) (aCons (eOp oIx (eVar 3) (eC (.int 0))) (aCons (eOp oIx (eVar 3) (eC (.int 1))) aNil)))))))))
def f_is_shown : Fn := fnA (fnS 3 5 m_is_shown)
def m_is_row : C := (sSeq (sIf (toB (eCall 1 f_asks (aCons (eVar 1) aNil))) (sRet (eCall 3 f_is_shown (aCons (eVar 0) (aCons (eVar 1) (aCons (eVar 2) aNil))))) sNx) (sRet (eAn (eOp oIs (eVar 2) (eC .non)) (eCall 2 f_keeps (aCons (eVar 0) (aCons (eVar 1) aNil))))))
def f_is_row : Fn := fnA (fnS 3 3 m_is_row)
def m_is_kept_paper : C := (sSeq (sSet 3 (eCall 2 f_all_broken (aCons (eVar 0) (aCons (eVar 1) aNil)))) (sSeq (sIf (tOr_ (tNt (toB (eIsi .tuple (eVar 2)))) (tOr_ (toB (eOp oEq (eVar 2) (eTup aNil))) (tNt (toB (eIsi .str (eOp oIx (eVar 2) (eC (.int 0)))))))) (sRet (eC (.bl false))) sNx) (sSeq (sIf (tAn (toB (eOp oEq (eOp oIx (eVar 2) (eC (.int 0))) (eC (.str [107, 101, 112, 116])))) (toB (eOp oEq (eB oLen (aCons (eVar 2) aNil)) (eC (.int 2))))) (sSeq (sIf (tOr_ (tNt (toB (eIsi .tuple (eOp oIx (eVar 2) (eC (.int 1)))))) (toB (eOp oNe (eB oLen (aCons (eOp oIx (eVar 2) (eC (.int 1))) aNil)) (eB oLen (aCons (eVar 1) aNil))))) (sRet (eC (.bl false))) sNx) (sRet (eB oAll (aCons (eLc [4, 5] (iZp (aCons (eVar 1) (aCons (eOp oIx (eVar 2) (eC (.int 1))) aNil))) (gT 2 (gsCons (gN 4) (gsCons (gN 5) gsNil))) tYs (eCall 3 f_is_row (aCons (eVar 0) (aCons (eVar 4) (aCons (eVar 5) aNil))))) aNil)))) sNx) (sSeq (sIf (tOr_ (toB (eOp oNe (eOp oIx (eVar 2) (eC (.int 0))) (eC (.str [98, 114, 111, 107, 101, 110])))) (tOr_ (toB (eOp oNe (eB oLen (aCons (eVar 2) aNil)) (eC (.int 3)))) (tOr_ (tNt (toB (eCall 1 f_is_count (aCons (eOp oIx (eVar 2) (eC (.int 1))) aNil)))) (toB (eOp oNotIn (eOp oIx (eVar 2) (eC (.int 1))) (eVar 3)))))) (sRet (eC (.bl false))) sNx) (sSeq (sSet 4 (eOp oIx (eVar 1) (eOp oIx (eVar 2) (eC (.int 1))))) (sRet (eIf (toB (eCall 1 f_asks (aCons (eVar 4) aNil))) (eOp oIs (eOp oIx (eVar 2) (eC (.int 2))) (eC .non)) (eCall 3 f_is_shown (aCons (eVar 0) (aCons (eVar 4) (aCons (eOp oIx (eVar 2) (eC (.int 2))) aNil)))))))))))
def f_is_kept_paper : Fn := fnA (fnS 3 6 m_is_kept_paper)
def m_law_contrary : C := (sRet (eOp oAdd (eTup (aCons (eOp oIx (eDisp (pCons (eC (.str [115, 111, 109, 101])) (eC (.str [110, 111])) (pCons (eC (.str [110, 111])) (eC (.str [115, 111, 109, 101])) (pCons (eC (.str [115, 101, 97, 109])) (eC (.str [97, 112, 97, 114, 116])) (pCons (eC (.str [97, 112, 97, 114, 116])) (eC (.str [115, 101, 97, 109])) pNil))))) (eOp oIx (eVar 0) (eC (.int 0)))) aNil)) (eSl (eVar 0) (pSome (eC (.int 1))) pNone)))
def f_law_contrary : Fn := fnA (fnS 1 1 m_law_contrary)
def m_kept_paper : C := (sSeq (sSet 2 (eCall 2 f_all_broken (aCons (eVar 0) (aCons (eVar 1) aNil)))) (sSeq (sIf (toB (eOp oNe (eVar 2) (eTup aNil))) (sSeq (sSet 3 (eOp oIx (eVar 1) (eOp oIx (eVar 2) (eC (.int 0))))) (sRet (eTup (aCons (eC (.str [98, 114, 111, 107, 101, 110])) (aCons (eOp oIx (eVar 2) (eC (.int 0))) (aCons (eIf (toB (eCall 1 f_asks (aCons (eVar 3) aNil))) (eC .non) (eCall 2 f_shown_by (aCons (eVar 0) (aCons (eVar 3) aNil)))) aNil)))))) sNx) (sRet (eTup (aCons (eC (.str [107, 101, 112, 116])) (aCons (eB oTuple (aCons (eLc [3] (iSrc (eVar 1)) (gN 3) tYs (eIf (toB (eCall 1 f_asks (aCons (eVar 3) aNil))) (eCall 2 f_shown_by (aCons (eVar 0) (aCons (eVar 3) aNil))) (eC .non))) aNil)) aNil))))))
def f_kept_paper : Fn := fnA (fnS 2 4 m_kept_paper)
def m_law : C := (sSeq (sSet 1 (eCall 1 f_law_bag (aCons (eVar 0) aNil))) (sSeq (sSet 2 (eTup (aCons (eC (.str [97])) (aCons (eC (.str [98])) aNil)))) (sSeq (sFor (iRg1 (aCons (eC (.int 8)) aNil)) (gN 3) (sSeq (sSet 4 (eCall 3 f_law_map (aCons (eVar 1) (aCons (eVar 2) (aCons (eC (.int 5)) aNil))))) (sSeq (sSet 5 (eLc [10] (iRg1 (aCons (eOp oAdd (eC (.int 1)) (eCall 2 f_law_take (aCons (eVar 1) (aCons (eC (.int 4)) aNil)))) aNil)) (gN 10) tYs (eCall 2 f_law_wish (aCons (eVar 1) (aCons (eVar 2) aNil))))) (sSeq (sSet 6 (eB oTuple (aCons (eLc [15] (iSrc (eVar 5)) (gN 15) tYs (eIf (tOr_ (toB (eOp oEq (eCall 2 f_law_take (aCons (eVar 1) (aCons (eC (.int 4)) aNil))) (eC (.int 0)))) (toB (eCall 2 f_law_keeps (aCons (eVar 4) (aCons (eVar 15) aNil))))) (eVar 15) (eCall 1 f_law_contrary (aCons (eVar 15) aNil)))) aNil))) (sSeq (sSet 7 (eLc [10, 15] (iEn (aCons (eVar 6) aNil)) (gT 2 (gsCons (gN 10) (gsCons (gN 15) gsNil))) (tNt (toB (eCall 2 f_law_keeps (aCons (eVar 4) (aCons (eVar 15) aNil))))) (eVar 10))) (sSeq (sSet 8 (eB oTuple (aCons (eLc [15] (iSrc (eVar 6)) (gN 15) tYs (eIf (toB (eOp oIn (eOp oIx (eVar 15) (eC (.int 0))) (eTup (aCons (eC (.str [115, 111, 109, 101])) (aCons (eC (.str [115, 101, 97, 109])) aNil))))) (eOp oIx (eOp oAdd (eCall 2 f_law_shown (aCons (eVar 4) (aCons (eVar 15) aNil))) (eTup (aCons (eC .non) aNil))) (eC (.int 0))) (eC .non))) aNil))) (sSeq (sSet 9 (eIf (toB (eOp oEq (eVar 7) (eLst aNil))) (eTup (aCons (eC (.str [107, 101, 112, 116])) (aCons (eVar 8) aNil))) (eTup (aCons (eC (.str [98, 114, 111, 107, 101, 110])) (aCons (eOp oIx (eVar 7) (eC (.int 0))) (aCons (eIf (toB (eOp oIn (eOp oIx (eOp oIx (eVar 6) (eOp oIx (eVar 7) (eC (.int 0)))) (eC (.int 0))) (eTup (aCons (eC (.str [115, 111, 109, 101])) (aCons (eC (.str [115, 101, 97, 109])) aNil))))) (eC .non) (eOp oIx (eCall 2 f_law_shown (aCons (eVar 4) (aCons (eOp oIx (eVar 6) (eOp oIx (eVar 7) (eC (.int 0)))) aNil))) (eC (.int 0)))) aNil)))))) (sSeq (sIf (tOr_ (tNt (toB (eCall 2 f_law_alike (aCons (eCall 2 f_kept_paper (aCons (eVar 4) (aCons (eVar 6) aNil))) (aCons (eVar 9) aNil))))) (tOr_ (toB (eOp oIsNot (eCall 3 f_is_kept_paper (aCons (eVar 4) (aCons (eVar 6) (aCons (eVar 9) aNil)))) (eC (.bl true)))) (tNt (toB (eCall 3 f_law_is_paper (aCons (eVar 4) (aCons (eVar 6) (aCons (eVar 9) aNil)))))))) (sRet (eC (.bl false))) sNx) (sSeq (sSet 10 (eCall 2 f_law_take (aCons (eVar 1) (aCons (eB oLen (aCons (eVar 6) aNil)) aNil)))) (sSeq (sSet 11 (eLstR (aCons (eC .non) (aCons (eTup aNil) (aCons (eB oList (aCons (eVar 9) aNil)) (aCons (eSl (eVar 9) pNone (pSome (eC (.int 1)))) (aCons (eOp oAdd (eVar 9) (eTup (aCons (eC (.int 0)) aNil))) (aCons (eOp oAdd (eTup (aCons (eC (.str [122, 111, 111])) aNil)) (eSl (eVar 9) (pSome (eC (.int 1))) pNone)) (aCons (eTup (aCons (eC (.str [107, 101, 112, 116])) (aCons (eVar 8) aNil))) (aCons (eTup (aCons (eC (.str [107, 101, 112, 116])) (aCons (eSl (eVar 8) (pSome (eC (.int 1))) pNone) aNil))) (aCons (eTup (aCons (eC (.str [107, 101, 112, 116])) (aCons (eB oList (aCons (eVar 8) aNil)) aNil))) (aCons (eTup (aCons (eC (.str [107, 101, 112, 116])) (aCons (eC .non) aNil))) (aCons (eTup (aCons (eC (.str [107, 101, 112, 116])) (aCons (eOp oAdd (eVar 8) (eTup (aCons (eC .non) aNil))) aNil))) aNil))))))))))))) (sSeq (sFor (iSrc (eOp oAdd (eLst (aCons (eC .non) (aCons (eC (.int 0)) (aCons (eC (.int 1)) (aCons (eC (.int 2)) (aCons (eC (.bl true)) (aCons (eNeg (eC (.int 1))) (aCons (eTup (aCons (eC (.int 0)) (aCons (eC (.int 1)) aNil))) (aCons (eTup (aCons (eC (.int 1)) (aCons (eC (.int 0)) aNil))) (aCons (eTup (aCons (eC (.int 1)) (aCons (eC (.int 2)) aNil))) (aCons (eLst (aCons (eC (.int 0)) (aCons (eC (.int 1)) aNil))) (aCons (eTup (aCons (eC (.int 0)) aNil)) (aCons (eC (.str [48])) aNil))))))))))))) (eSl (eB oList (aCons (eCall 2 f_law_shown (aCons (eVar 4) (aCons (eOp oIx (eVar 6) (eVar 10)) aNil))) aNil)) (pSome (eNeg (eC (.int 2)))) pNone))) (gN 12) (sE (eMt tyL oExtend (eVar 11) (aCons (eLst (aCons (eTup (aCons (eC (.str [107, 101, 112, 116])) (aCons (eOp oAdd (eOp oAdd (eSl (eVar 8) pNone (pSome (eVar 10))) (eTup (aCons (eVar 12) aNil))) (eSl (eVar 8) (pSome (eOp oAdd (eVar 10) (eC (.int 1)))) pNone)) aNil))) (aCons (eTup (aCons (eC (.str [98, 114, 111, 107, 101, 110])) (aCons (eVar 10) (aCons (eVar 12) aNil)))) aNil))) aNil)))) (sSeq (sE (eMt tyL oExtend (eVar 11) (aCons (eLst (aCons (eTup (aCons (eC (.str [98, 114, 111, 107, 101, 110])) (aCons (eB oLen (aCons (eVar 6) aNil)) (aCons (eC .non) aNil)))) (aCons (eTup (aCons (eC (.str [98, 114, 111, 107, 101, 110])) (aCons (eC (.bl true)) (aCons (eC .non) aNil)))) (aCons (eTup (aCons (eC (.str [98, 114, 111, 107, 101, 110])) (aCons (eNeg (eC (.int 1))) (aCons (eC .non) aNil)))) (aCons (eTup (aCons (eC (.str [98, 114, 111, 107, 101, 110])) (aCons (eC .non) (aCons (eC .non) aNil)))) aNil))))) aNil))) (sFor (iSrc (eVar 11)) (gN 13) (sSeq (sSet 14 (eCall 3 f_law_is_paper (aCons (eVar 4) (aCons (eVar 6) (aCons (eVar 13) aNil))))) (sIf (tOr_ (tNt (toB (eCall 2 f_law_alike (aCons (eCall 3 f_is_kept_paper (aCons (eVar 4) (aCons (eVar 6) (aCons (eVar 13) aNil)))) (aCons (eVar 14) aNil))))) (tAn (toB (eVar 14)) (toB (eOp oNe (eOp oEq (eOp oIx (eVar 13) (eC (.int 0))) (eC (.str [107, 101, 112, 116]))) (eOp oEq (eVar 7) (eLst aNil)))))) (sRet (eC (.bl false))) sNx))))))))))))))) (sRet (eC (.bl true))))))
def f_law : Fn := (fnS 1 16 m_law)
end Zk24

namespace Zk24
open PySem PySem.Spec PyProof PyProof.Rows L2 Z
theorem p_is_integer {d : D} {S : Sto} (h : val d = true) : f_is_integer [d] S = .ok (.bl (isI d)) S := by
  refine fnA_ok (S1 := Sto.nil) (by simp [nrfs, val_nrf h]) ?_ rfl
  cases d <;> first | rfl | (have := val_shp h; simp [shp] at this; done) | (have := val_nrf h; simp [nrf] at this; done)
theorem p_is_count {d : D} {S : Sto} (h : val d = true) : f_is_count [d] S = .ok (.bl (isC d)) S := by
  refine fnA_ok (S1 := Sto.nil) (by simp [nrfs, val_nrf h]) ?_ rfl
  simp only [m_is_count, fnS, env0, sSeq, sSet, sRet, sRetN, sIf, sE, sAsg, sPar, sNx, sPut, R.toS, R.bind, eVar, eC, eOp, eTup, eLst, eLstR, aCons, aNil, eIf, eAn, eOr, eNt, eIsi, toB, tNt, tAn, tOr_, tYs, eCall, eCall0, eB, eMt, eMt0, iSrc, iRg1, iRg2, iEn, iZp, gN, gT, gsCons, gsNil, turnS, List.map_cons, List.map_nil, List.length_cons, List.length_nil, List.replicate, List.cons_append, List.nil_append, List.getElem?_cons_zero, List.getElem?_cons_succ, List.set_cons_zero, List.set_cons_succ, Nat.sub_self, Nat.reduceSub, Nat.reduceAdd, if_true, Bool.false_eq_true, if_false, ite_true, ite_false, List.cons.injEq, and_false, false_and, true_and, and_true, decide_false, decide_true, Bool.not_true, Bool.not_false, Bool.true_and, Bool.false_and, Bool.and_true, Bool.and_false, Bool.or_false, Bool.or_true, Bool.false_or, Bool.true_or, Nat.reduceEqDiff, reduceCtorEq, eSl, pSome, pNone, lcT, wipeE, fits_0, fits_1, fits_2, fits_3, fits_4, p_is_integer h]
  cases d <;> first | rfl | (have := val_shp h; simp [shp] at this; done) | skip
  · simp only [isI, fnS, env0, sSeq, sSet, sRet, sRetN, sIf, sE, sAsg, sPar, sNx, sPut, R.toS, R.bind, eVar, eC, eOp, eTup, eLst, eLstR, aCons, aNil, eIf, eAn, eOr, eNt, eIsi, toB, tNt, tAn, tOr_, tYs, eCall, eCall0, eB, eMt, eMt0, iSrc, iRg1, iRg2, iEn, iZp, gN, gT, gsCons, gsNil, turnS, List.map_cons, List.map_nil, List.length_cons, List.length_nil, List.replicate, List.cons_append, List.nil_append, List.getElem?_cons_zero, List.getElem?_cons_succ, List.set_cons_zero, List.set_cons_succ, Nat.sub_self, Nat.reduceSub, Nat.reduceAdd, if_true, Bool.false_eq_true, if_false, ite_true, ite_false, List.cons.injEq, and_false, false_and, true_and, and_true, decide_false, decide_true, Bool.not_true, Bool.not_false, Bool.true_and, Bool.false_and, Bool.and_true, Bool.and_false, Bool.or_false, Bool.or_true, Bool.false_or, Bool.true_or, Nat.reduceEqDiff, reduceCtorEq, eSl, pSome, pNone, lcT, wipeE, fits_0, fits_1, fits_2, fits_3, fits_4, z_ge, isC]
/-- a text among written ones -/
def strIn (w : List Nat) (l : List (List Nat)) : Bool := l.any fun z => decide (z = w)
def okS (w : List Nat) : Bool := w.all fun c => Nat.blt c 0x110000
theorem p_asks {w : List Nat} {ds : List D} {S : Sto} (hw : okS w = true) (h : nrfs ds = true) : f_asks [.tup (.str w :: ds)] S = .ok (.bl (strIn w [[115, 111, 109, 101], [115, 101, 97, 109]])) S := by
  refine fnA_ok (S1 := Sto.nil) (by simp [nrfs, nrf, h]) ?_ rfl
  have h1 : shp 60 (D.str w) = true := by simpa [shp, okS] using hw
  simp only [m_asks, fnS, env0, sSeq, sSet, sRet, sRetN, sIf, sE, sAsg, sPar, sNx, sPut, R.toS, R.bind, eVar, eC, eOp, eTup, eLst, eLstR, aCons, aNil, eIf, eAn, eOr, eNt, eIsi, toB, tNt, tAn, tOr_, tYs, eCall, eCall0, eB, eMt, eMt0, iSrc, iRg1, iRg2, iEn, iZp, gN, gT, gsCons, gsNil, turnS, List.map_cons, List.map_nil, List.length_cons, List.length_nil, List.replicate, List.cons_append, List.nil_append, List.getElem?_cons_zero, List.getElem?_cons_succ, List.set_cons_zero, List.set_cons_succ, Nat.sub_self, Nat.reduceSub, Nat.reduceAdd, if_true, Bool.false_eq_true, if_false, ite_true, ite_false, List.cons.injEq, and_false, false_and, true_and, and_true, decide_false, decide_true, Bool.not_true, Bool.not_false, Bool.true_and, Bool.false_and, Bool.and_true, Bool.and_false, Bool.or_false, Bool.or_true, Bool.false_or, Bool.true_or, Nat.reduceEqDiff, reduceCtorEq, eSl, pSome, pNone, lcT, wipeE, fits_0, fits_1, fits_2, fits_3, fits_4, z_t0, show fits 2 = true from rfl, z_inT (show nrf (D.str w) = true from rfl) h1 (show shp 60 (.tup [.str [115, 111, 109, 101], .str [115, 101, 97, 109]]) = true from rfl), List.any_cons, List.any_nil, eqv_strs, strIn]
/-! ### terms -/
inductive Tm where
  | zone (z : Bool) | all | none | not (t : Tm) | op (c : Bool) (ts : List Tm)
def nmD (z : Bool) : D := .str (if z then [98] else [97])
mutual
def tmD : Tm → D
  | .zone z => .tup [.str [122, 111, 110, 101], nmD z]
  | .all => .tup [.str [97, 108, 108]]
  | .none => .tup [.str [110, 111, 110, 101]]
  | .not t => .tup [.str [110, 111, 116], tmD t]
  | .op c ts => .tup (.str (if c then [97, 110, 100] else [111, 114]) :: tmDs ts)
def tmDs : List Tm → List D
  | [] => []
  | t :: ts => tmD t :: tmDs ts
end
mutual
def ev (a b : Bool) : Tm → Bool
  | .zone z => if z then b else a
  | .all => true
  | .none => false
  | .not t => !ev a b t
  | .op c ts => if c then evA a b ts else evO a b ts
def evA (a b : Bool) : List Tm → Bool
  | [] => true
  | t :: ts => ev a b t && evA a b ts
def evO (a b : Bool) : List Tm → Bool
  | [] => false
  | t :: ts => ev a b t || evO a b ts
end
mutual
/-- how deep -/
def td : Tm → Nat
  | .not t => td t + 1
  | .op _ ts => tds ts + 1
  | _ => 0
def tds : List Tm → Nat
  | [] => 0
  | t :: ts => max (td t) (tds ts)
end
mutual
/-- how many parts -/
def tsz : Tm → Nat
  | .not t => tsz t + 1
  | .op _ ts => tszs ts + 1
  | _ => 1
def tszs : List Tm → Nat
  | [] => 0
  | t :: ts => tsz t + tszs ts
end
mutual
theorem tsz_pos : ∀ t : Tm, 0 < tsz t
  | .zone _ => Nat.one_pos
  | .all => Nat.one_pos
  | .none => Nat.one_pos
  | .not t => Nat.succ_pos _
  | .op _ ts => Nat.succ_pos _
end
theorem tszs_len : ∀ ts : List Tm, ts.length ≤ tszs ts
  | [] => Nat.le_refl _
  | t :: ts => by have := tsz_pos t; have := tszs_len ts; rw [tszs, List.length_cons]; omega
mutual
theorem tm_nrf : ∀ t : Tm, nrf (tmD t) = true
  | .zone z => rfl
  | .all => rfl
  | .none => rfl
  | .not t => by simp [tmD, nrf, nrfs, tm_nrf t]
  | .op c ts => by simp [tmD, nrf, nrfs, tms_nrf ts]
theorem tms_nrf : ∀ ts : List Tm, nrfs (tmDs ts) = true
  | [] => rfl
  | t :: ts => by simp [tmDs, nrfs, tm_nrf t, tms_nrf ts]
end
mutual
theorem tm_shp : ∀ (t : Tm) (n : Nat), td t < n → shp n (tmD t) = true
  | .zone z, n + 1, _ => by cases z <;> simp [tmD, nmD, shp, shps]
  | .all, n + 1, _ => by simp [tmD, shp, shps]
  | .none, n + 1, _ => by simp [tmD, shp, shps]
  | .not t, n + 1, h => by
    have h : td t + 1 < n + 1 := h
    simp [tmD, shp, shps, tm_shp t n (by omega)]
  | .op c ts, n + 1, h => by
    have h : tds ts + 1 < n + 1 := h
    cases c <;> simp [tmD, shp, shps, tms_shp ts n (by omega)]
theorem tms_shp : ∀ (ts : List Tm) (n : Nat), tds ts < n → shps (n + 1) (tmDs ts) = true
  | [], n, _ => by simp [tmDs, shps]
  | t :: ts, n, h => by
    have h : max (td t) (tds ts) < n := h
    simp [tmDs, shps, tm_shp t n (by omega), tms_shp ts n (by omega)]
end
/-- the zones of a cell -/
def memD (a b : Bool) : D := .tup ((if a then [nmD false] else []) ++ if b then [nmD true] else [])
theorem tmDs_map : ∀ ts : List Tm, tmDs ts = ts.map tmD
  | [] => rfl
  | t :: ts => by rw [tmDs, tmDs_map ts]; rfl
theorem evA_map (a b : Bool) : ∀ ts : List Tm, evA a b ts = (ts.map (ev a b)).all id
  | [] => rfl
  | t :: ts => by rw [evA, evA_map a b ts]; rfl
theorem evO_map (a b : Bool) : ∀ ts : List Tm, evO a b ts = (ts.map (ev a b)).any id
  | [] => rfl
  | t :: ts => by rw [evO, evO_map a b ts]; rfl
theorem td_mem {t : Tm} : ∀ {ts : List Tm}, t ∈ ts → td t ≤ tds ts
  | t' :: ts, h => by
    rw [tds]
    rcases List.mem_cons.mp h with e | h
    · subst e; omega
    · have := td_mem h; omega
theorem tsz_mem {t : Tm} : ∀ {ts : List Tm}, t ∈ ts → tsz t ≤ tszs ts
  | t' :: ts, h => by
    rw [tszs]
    rcases List.mem_cons.mp h with e | h
    · subst e; omega
    · have := tsz_mem h; omega
theorem q_is_in : ∀ (n : Nat) (t : Tm) (a b : Bool) (S : Sto), td t < n → tsz t ≤ 1000 → f_law_is_in n [tmD t, memD a b] S = .ok (.bl (ev a b t)) S := by
  intro n
  induction n with
  | zero => intro t a b S h _; omega
  | succ n ih =>
    intro t a b S h hz
    refine fnA_ok (S1 := Sto.nil) (by cases a <;> cases b <;> simp [nrfs, tm_nrf, memD, nrf, nmD]) ?_ rfl
    cases t with
    | zone z =>
      simp only [m_law_is_in, fnS, env0, sSeq, sSet, sRet, sRetN, sIf, sE, sAsg, sPar, sNx, sPut, R.toS, R.bind, eVar, eC, eOp, eTup, eLst, eLstR, aCons, aNil, eIf, eAn, eOr, eNt, eIsi, toB, tNt, tAn, tOr_, tYs, eCall, eCall0, eB, eMt, eMt0, iSrc, iRg1, iRg2, iEn, iZp, gN, gT, gsCons, gsNil, turnS, List.map_cons, List.map_nil, List.length_cons, List.length_nil, List.replicate, List.cons_append, List.nil_append, List.getElem?_cons_zero, List.getElem?_cons_succ, List.set_cons_zero, List.set_cons_succ, Nat.sub_self, Nat.reduceSub, Nat.reduceAdd, if_true, Bool.false_eq_true, if_false, ite_true, ite_false, List.cons.injEq, and_false, false_and, true_and, and_true, decide_false, decide_true, Bool.not_true, Bool.not_false, Bool.true_and, Bool.false_and, Bool.and_true, Bool.and_false, Bool.or_false, Bool.or_true, Bool.false_or, Bool.true_or, Nat.reduceEqDiff, reduceCtorEq, eSl, pSome, pNone, lcT, wipeE, fits_0, fits_1, fits_2, fits_3, fits_4, tmD, z_t0, z_t1, z_eqs, decide_true]
      cases z <;> cases a <;> cases b <;> rfl
    | all => rfl
    | none => rfl
    | not t =>
      have h : td t + 1 < n + 1 := h
      simp only [m_law_is_in, fnS, env0, sSeq, sSet, sRet, sRetN, sIf, sE, sAsg, sPar, sNx, sPut, R.toS, R.bind, eVar, eC, eOp, eTup, eLst, eLstR, aCons, aNil, eIf, eAn, eOr, eNt, eIsi, toB, tNt, tAn, tOr_, tYs, eCall, eCall0, eB, eMt, eMt0, iSrc, iRg1, iRg2, iEn, iZp, gN, gT, gsCons, gsNil, turnS, List.map_cons, List.map_nil, List.length_cons, List.length_nil, List.replicate, List.cons_append, List.nil_append, List.getElem?_cons_zero, List.getElem?_cons_succ, List.set_cons_zero, List.set_cons_succ, Nat.sub_self, Nat.reduceSub, Nat.reduceAdd, if_true, Bool.false_eq_true, if_false, ite_true, ite_false, List.cons.injEq, and_false, false_and, true_and, and_true, decide_false, decide_true, Bool.not_true, Bool.not_false, Bool.true_and, Bool.false_and, Bool.and_true, Bool.and_false, Bool.or_false, Bool.or_true, Bool.false_or, Bool.true_or, Nat.reduceEqDiff, reduceCtorEq, eSl, pSome, pNone, lcT, wipeE, fits_0, fits_1, fits_2, fits_3, fits_4, tmD, z_t0, z_t1, z_eqs, show fits 2 = true from rfl, show ∀ S, oIn (.str [110, 111, 116]) (.tup [.str [97, 108, 108], .str [110, 111, 110, 101]]) S = .ok (.bl false) S from fun _ => rfl, ih t a b _ (show td t < n by omega) (by have hz : tsz t + 1 ≤ 1000 := hz; omega), ev]
    | op c ts =>
      have h : tds ts + 1 < n + 1 := h
      have hz : tszs ts + 1 ≤ 1000 := hz
      have hlen := tszs_len ts
      have hl : ∀ (r2 r3 r4 : Option D) (w : D), eLc [4] (iSrc (eSl (eVar 0) (pSome (eC (.int 1))) pNone)) (gN 4) tYs (eCall 2 (f_law_is_in n) (aCons (eVar 4) (aCons (eVar 1) aNil))) [some (.tup (w :: tmDs ts)), some (memD a b), r2, r3, r4] Sto.nil = .ok (.lst ((ts.map (ev a b)).map .bl)) Sto.nil := fun r2 r3 r4 w => by
        rw [List.map_map]
        refine eLc_m (emb := tmD) (xs := ts) ?_ (fun t ht => ?_) ?_
        · simp only [fnS, env0, sSeq, sSet, sRet, sRetN, sIf, sE, sAsg, sPar, sNx, sPut, R.toS, R.bind, eVar, eC, eOp, eTup, eLst, eLstR, aCons, aNil, eIf, eAn, eOr, eNt, eIsi, toB, tNt, tAn, tOr_, tYs, eCall, eCall0, eB, eMt, eMt0, iSrc, iRg1, iRg2, iEn, iZp, gN, gT, gsCons, gsNil, turnS, List.map_cons, List.map_nil, List.length_cons, List.length_nil, List.replicate, List.cons_append, List.nil_append, List.getElem?_cons_zero, List.getElem?_cons_succ, List.set_cons_zero, List.set_cons_succ, Nat.sub_self, Nat.reduceSub, Nat.reduceAdd, if_true, Bool.false_eq_true, if_false, ite_true, ite_false, List.cons.injEq, and_false, false_and, true_and, and_true, decide_false, decide_true, Bool.not_true, Bool.not_false, Bool.true_and, Bool.false_and, Bool.and_true, Bool.and_false, Bool.or_false, Bool.or_true, Bool.false_or, Bool.true_or, Nat.reduceEqDiff, reduceCtorEq, eSl, pSome, pNone, lcT, wipeE, fits_0, fits_1, fits_2, fits_3, fits_4, z_sl1, srcOf, tmDs_map]
        · simp only [fnS, env0, sSeq, sSet, sRet, sRetN, sIf, sE, sAsg, sPar, sNx, sPut, R.toS, R.bind, eVar, eC, eOp, eTup, eLst, eLstR, aCons, aNil, eIf, eAn, eOr, eNt, eIsi, toB, tNt, tAn, tOr_, tYs, eCall, eCall0, eB, eMt, eMt0, iSrc, iRg1, iRg2, iEn, iZp, gN, gT, gsCons, gsNil, turnS, List.map_cons, List.map_nil, List.length_cons, List.length_nil, List.replicate, List.cons_append, List.nil_append, List.getElem?_cons_zero, List.getElem?_cons_succ, List.set_cons_zero, List.set_cons_succ, Nat.sub_self, Nat.reduceSub, Nat.reduceAdd, if_true, Bool.false_eq_true, if_false, ite_true, ite_false, List.cons.injEq, and_false, false_and, true_and, and_true, decide_false, decide_true, Bool.not_true, Bool.not_false, Bool.true_and, Bool.false_and, Bool.and_true, Bool.and_false, Bool.or_false, Bool.or_true, Bool.false_or, Bool.true_or, Nat.reduceEqDiff, reduceCtorEq, eSl, pSome, pNone, lcT, wipeE, fits_0, fits_1, fits_2, fits_3, fits_4, ih t a b _ (show td t < n by have := td_mem ht; omega) (by have := tsz_mem ht; omega), Function.comp]
        · omega
      have w1 : ∀ S, oIn (.str (if c then [97, 110, 100] else [111, 114])) (.tup [.str [97, 108, 108], .str [110, 111, 110, 101]]) S = .ok (.bl false) S := fun _ => by cases c <;> rfl
      have w2 : ∀ S, oEq (.str (if c then [97, 110, 100] else [111, 114])) (.str [122, 111, 110, 101]) S = .ok (.bl false) S := fun _ => by cases c <;> rfl
      have w3 : ∀ S, oEq (.str (if c then [97, 110, 100] else [111, 114])) (.str [110, 111, 116]) S = .ok (.bl false) S := fun _ => by cases c <;> rfl
      have w4 : ∀ S, oEq (.str (if c then [97, 110, 100] else [111, 114])) (.str [97, 110, 100]) S = .ok (.bl c) S := fun _ => by cases c <;> rfl
      refine fn_rt ?_
      unfold m_law_is_in
      refine sq_nx (st_set (d := .str (if c then [97, 110, 100] else [111, 114])) (S' := Sto.nil) (by simp only [fnS, env0, sSeq, sSet, sRet, sRetN, sIf, sE, sAsg, sPar, sNx, sPut, R.toS, R.bind, eVar, eC, eOp, eTup, eLst, eLstR, aCons, aNil, eIf, eAn, eOr, eNt, eIsi, toB, tNt, tAn, tOr_, tYs, eCall, eCall0, eB, eMt, eMt0, iSrc, iRg1, iRg2, iEn, iZp, gN, gT, gsCons, gsNil, turnS, List.map_cons, List.map_nil, List.length_cons, List.length_nil, List.replicate, List.cons_append, List.nil_append, List.getElem?_cons_zero, List.getElem?_cons_succ, List.set_cons_zero, List.set_cons_succ, Nat.sub_self, Nat.reduceSub, Nat.reduceAdd, if_true, Bool.false_eq_true, if_false, ite_true, ite_false, List.cons.injEq, and_false, false_and, true_and, and_true, decide_false, decide_true, Bool.not_true, Bool.not_false, Bool.true_and, Bool.false_and, Bool.and_true, Bool.and_false, Bool.or_false, Bool.or_true, Bool.false_or, Bool.true_or, Nat.reduceEqDiff, reduceCtorEq, eSl, pSome, pNone, lcT, wipeE, fits_0, fits_1, fits_2, fits_3, fits_4, tmD, z_t0])) ?_
      refine sq_nx (st_iff (S' := Sto.nil) (by simp only [fnS, env0, sSeq, sSet, sRet, sRetN, sIf, sE, sAsg, sPar, sNx, sPut, R.toS, R.bind, eVar, eC, eOp, eTup, eLst, eLstR, aCons, aNil, eIf, eAn, eOr, eNt, eIsi, toB, tNt, tAn, tOr_, tYs, eCall, eCall0, eB, eMt, eMt0, iSrc, iRg1, iRg2, iEn, iZp, gN, gT, gsCons, gsNil, turnS, List.map_cons, List.map_nil, List.length_cons, List.length_nil, List.replicate, List.cons_append, List.nil_append, List.getElem?_cons_zero, List.getElem?_cons_succ, List.set_cons_zero, List.set_cons_succ, Nat.sub_self, Nat.reduceSub, Nat.reduceAdd, if_true, Bool.false_eq_true, if_false, ite_true, ite_false, List.cons.injEq, and_false, false_and, true_and, and_true, decide_false, decide_true, Bool.not_true, Bool.not_false, Bool.true_and, Bool.false_and, Bool.and_true, Bool.and_false, Bool.or_false, Bool.or_true, Bool.false_or, Bool.true_or, Nat.reduceEqDiff, reduceCtorEq, eSl, pSome, pNone, lcT, wipeE, fits_0, fits_1, fits_2, fits_3, fits_4, w2]) st_nx) ?_
      refine sq_nx (st_iff (S' := Sto.nil) (by simp only [fnS, env0, sSeq, sSet, sRet, sRetN, sIf, sE, sAsg, sPar, sNx, sPut, R.toS, R.bind, eVar, eC, eOp, eTup, eLst, eLstR, aCons, aNil, eIf, eAn, eOr, eNt, eIsi, toB, tNt, tAn, tOr_, tYs, eCall, eCall0, eB, eMt, eMt0, iSrc, iRg1, iRg2, iEn, iZp, gN, gT, gsCons, gsNil, turnS, List.map_cons, List.map_nil, List.length_cons, List.length_nil, List.replicate, List.cons_append, List.nil_append, List.getElem?_cons_zero, List.getElem?_cons_succ, List.set_cons_zero, List.set_cons_succ, Nat.sub_self, Nat.reduceSub, Nat.reduceAdd, if_true, Bool.false_eq_true, if_false, ite_true, ite_false, List.cons.injEq, and_false, false_and, true_and, and_true, decide_false, decide_true, Bool.not_true, Bool.not_false, Bool.true_and, Bool.false_and, Bool.and_true, Bool.and_false, Bool.or_false, Bool.or_true, Bool.false_or, Bool.true_or, Nat.reduceEqDiff, reduceCtorEq, eSl, pSome, pNone, lcT, wipeE, fits_0, fits_1, fits_2, fits_3, fits_4, w1, show fits 2 = true from rfl]) st_nx) ?_
      refine sq_nx (st_iff (S' := Sto.nil) (by simp only [fnS, env0, sSeq, sSet, sRet, sRetN, sIf, sE, sAsg, sPar, sNx, sPut, R.toS, R.bind, eVar, eC, eOp, eTup, eLst, eLstR, aCons, aNil, eIf, eAn, eOr, eNt, eIsi, toB, tNt, tAn, tOr_, tYs, eCall, eCall0, eB, eMt, eMt0, iSrc, iRg1, iRg2, iEn, iZp, gN, gT, gsCons, gsNil, turnS, List.map_cons, List.map_nil, List.length_cons, List.length_nil, List.replicate, List.cons_append, List.nil_append, List.getElem?_cons_zero, List.getElem?_cons_succ, List.set_cons_zero, List.set_cons_succ, Nat.sub_self, Nat.reduceSub, Nat.reduceAdd, if_true, Bool.false_eq_true, if_false, ite_true, ite_false, List.cons.injEq, and_false, false_and, true_and, and_true, decide_false, decide_true, Bool.not_true, Bool.not_false, Bool.true_and, Bool.false_and, Bool.and_true, Bool.and_false, Bool.or_false, Bool.or_true, Bool.false_or, Bool.true_or, Nat.reduceEqDiff, reduceCtorEq, eSl, pSome, pNone, lcT, wipeE, fits_0, fits_1, fits_2, fits_3, fits_4, w3]) st_nx) ?_
      refine sq_nx (st_set (S' := Sto.nil) (hl _ _ _ _)) ?_
      refine st_ret ?_
      simp only [fnS, env0, sSeq, sSet, sRet, sRetN, sIf, sE, sAsg, sPar, sNx, sPut, R.toS, R.bind, eVar, eC, eOp, eTup, eLst, eLstR, aCons, aNil, eIf, eAn, eOr, eNt, eIsi, toB, tNt, tAn, tOr_, tYs, eCall, eCall0, eB, eMt, eMt0, iSrc, iRg1, iRg2, iEn, iZp, gN, gT, gsCons, gsNil, turnS, List.map_cons, List.map_nil, List.length_cons, List.length_nil, List.replicate, List.cons_append, List.nil_append, List.getElem?_cons_zero, List.getElem?_cons_succ, List.set_cons_zero, List.set_cons_succ, Nat.sub_self, Nat.reduceSub, Nat.reduceAdd, if_true, Bool.false_eq_true, if_false, ite_true, ite_false, List.cons.injEq, and_false, false_and, true_and, and_true, decide_false, decide_true, Bool.not_true, Bool.not_false, Bool.true_and, Bool.false_and, Bool.and_true, Bool.and_false, Bool.or_false, Bool.or_true, Bool.false_or, Bool.true_or, Nat.reduceEqDiff, reduceCtorEq, eSl, pSome, pNone, lcT, wipeE, fits_0, fits_1, fits_2, fits_3, fits_4, w4]
      cases c with
      | true =>
        simp only [fnS, env0, sSeq, sSet, sRet, sRetN, sIf, sE, sAsg, sPar, sNx, sPut, R.toS, R.bind, eVar, eC, eOp, eTup, eLst, eLstR, aCons, aNil, eIf, eAn, eOr, eNt, eIsi, toB, tNt, tAn, tOr_, tYs, eCall, eCall0, eB, eMt, eMt0, iSrc, iRg1, iRg2, iEn, iZp, gN, gT, gsCons, gsNil, turnS, List.map_cons, List.map_nil, List.length_cons, List.length_nil, List.replicate, List.cons_append, List.nil_append, List.getElem?_cons_zero, List.getElem?_cons_succ, List.set_cons_zero, List.set_cons_succ, Nat.sub_self, Nat.reduceSub, Nat.reduceAdd, if_true, Bool.false_eq_true, if_false, ite_true, ite_false, List.cons.injEq, and_false, false_and, true_and, and_true, decide_false, decide_true, Bool.not_true, Bool.not_false, Bool.true_and, Bool.false_and, Bool.and_true, Bool.and_false, Bool.or_false, Bool.or_true, Bool.false_or, Bool.true_or, Nat.reduceEqDiff, reduceCtorEq, eSl, pSome, pNone, lcT, wipeE, fits_0, fits_1, fits_2, fits_3, fits_4, z_notInL (show nrf (.bl false) = true from rfl) (show shp 60 (.bl false) = true from rfl) (show shp 60 (.lst ((ts.map (ev a b)).map .bl)) = true by rw [shp]; exact shps_bls _), any_bl, ev, evA_map, all_any]
      | false =>
        simp only [fnS, env0, sSeq, sSet, sRet, sRetN, sIf, sE, sAsg, sPar, sNx, sPut, R.toS, R.bind, eVar, eC, eOp, eTup, eLst, eLstR, aCons, aNil, eIf, eAn, eOr, eNt, eIsi, toB, tNt, tAn, tOr_, tYs, eCall, eCall0, eB, eMt, eMt0, iSrc, iRg1, iRg2, iEn, iZp, gN, gT, gsCons, gsNil, turnS, List.map_cons, List.map_nil, List.length_cons, List.length_nil, List.replicate, List.cons_append, List.nil_append, List.getElem?_cons_zero, List.getElem?_cons_succ, List.set_cons_zero, List.set_cons_succ, Nat.sub_self, Nat.reduceSub, Nat.reduceAdd, if_true, Bool.false_eq_true, if_false, ite_true, ite_false, List.cons.injEq, and_false, false_and, true_and, and_true, decide_false, decide_true, Bool.not_true, Bool.not_false, Bool.true_and, Bool.false_and, Bool.and_true, Bool.and_false, Bool.or_false, Bool.or_true, Bool.false_or, Bool.true_or, Nat.reduceEqDiff, reduceCtorEq, eSl, pSome, pNone, lcT, wipeE, fits_0, fits_1, fits_2, fits_3, fits_4, z_inL (show nrf (.bl true) = true from rfl) (show shp 60 (.bl true) = true from rfl) (show shp 60 (.lst ((ts.map (ev a b)).map .bl)) = true by rw [shp]; exact shps_bls _), any_bl, ev, evO_map, any_any]
/-! ### maps -/
structure Mp where
  n : Nat
  seams : List (Nat × Nat)
  za : List Nat
  zb : List Nat
def mpD (m : Mp) : D := .tup [nD m.n, .tup (m.seams.map cpD), .tup [.tup [nmD false, cellsD m.za], .tup [nmD true, cellsD m.zb]]]
structure Mp.Ok (m : Mp) : Prop where
  n : m.n ≤ 5
  sm : ∀ p ∈ m.seams, p.1 < p.2 ∧ p.2 < m.n
  sl : m.seams.length ≤ 1000
  a : ∀ c ∈ m.za, c < m.n
  b : ∀ c ∈ m.zb, c < m.n
  al : m.za.length ≤ 400
  bl : m.zb.length ≤ 400
  na : m.za.Nodup
  nb : m.zb.Nodup
theorem mp_nrf (m : Mp) : nrf (mpD m) = true := by simp [mpD, nrf, nrfs, nD, nmD, cellsD, nrfs_nat, nrfs_cp]
theorem q_member (m : Mp) (c : Nat) (S : Sto) : f_law_member [mpD m, nD c] S = .ok (memD (m.za.contains c) (m.zb.contains c)) S := by
  refine fnA_ok (S1 := Sto.nil) (by simp [nrfs, mp_nrf, nD, nrf]) ?_ ?_
  · refine fn_rt (st_ret ?_)
    have e : eLc [2, 3] (iSrc (eOp oIx (eVar 0) (eC (.int 2)))) (gT 2 (gsCons (gN 2) (gsCons (gN 3) gsNil))) (toB (eOp oIn (eVar 1) (eVar 3))) (eVar 2) [some (mpD m), some (nD c), none, none] Sto.nil = .ok (.lst ((if m.za.contains c = true then [nmD false] else []) ++ if m.zb.contains c = true then [nmD true] else [])) Sto.nil := by
      simp only [eLc, lcRun, lcS, fnS, env0, sSeq, sSet, sRet, sRetN, sIf, sE, sAsg, sPar, sNx, sPut, R.toS, R.bind, eVar, eC, eOp, eTup, eLst, eLstR, aCons, aNil, eIf, eAn, eOr, eNt, eIsi, toB, tNt, tAn, tOr_, tYs, eCall, eCall0, eB, eMt, eMt0, iSrc, iRg1, iRg2, iEn, iZp, gN, gT, gsCons, gsNil, turnS, List.map_cons, List.map_nil, List.length_cons, List.length_nil, List.replicate, List.cons_append, List.nil_append, List.getElem?_cons_zero, List.getElem?_cons_succ, List.set_cons_zero, List.set_cons_succ, Nat.sub_self, Nat.reduceSub, Nat.reduceAdd, if_true, Bool.false_eq_true, if_false, ite_true, ite_false, List.cons.injEq, and_false, false_and, true_and, and_true, decide_false, decide_true, Bool.not_true, Bool.not_false, Bool.true_and, Bool.false_and, Bool.and_true, Bool.and_false, Bool.or_false, Bool.or_true, Bool.false_or, Bool.true_or, Nat.reduceEqDiff, reduceCtorEq, eSl, pSome, pNone, lcT, wipeE, fits_0, fits_1, fits_2, fits_3, fits_4, mpD, z_t2, srcOf, rd, z_inN]
      cases m.za.contains c <;> cases m.zb.contains c <;> rfl
    show (eB oTuple (aCons _ aNil)) [some (mpD m), some (nD c), none, none] Sto.nil = _
    simp only [fnS, env0, sSeq, sSet, sRet, sRetN, sIf, sE, sAsg, sPar, sNx, sPut, R.toS, R.bind, eVar, eC, eOp, eTup, eLst, eLstR, aCons, aNil, eIf, eAn, eOr, eNt, eIsi, toB, tNt, tAn, tOr_, tYs, eCall, eCall0, eB, eMt, eMt0, iSrc, iRg1, iRg2, iEn, iZp, gN, gT, gsCons, gsNil, turnS, List.map_cons, List.map_nil, List.length_cons, List.length_nil, List.replicate, List.cons_append, List.nil_append, List.getElem?_cons_zero, List.getElem?_cons_succ, List.set_cons_zero, List.set_cons_succ, Nat.sub_self, Nat.reduceSub, Nat.reduceAdd, if_true, Bool.false_eq_true, if_false, ite_true, ite_false, List.cons.injEq, and_false, false_and, true_and, and_true, decide_false, decide_true, Bool.not_true, Bool.not_false, Bool.true_and, Bool.false_and, Bool.and_true, Bool.and_false, Bool.or_false, Bool.or_true, Bool.false_or, Bool.true_or, Nat.reduceEqDiff, reduceCtorEq, eSl, pSome, pNone, lcT, wipeE, fits_0, fits_1, fits_2, fits_3, fits_4, e]
    rfl
  · cases m.za.contains c <;> cases m.zb.contains c <;> rfl
def inT (m : Mp) (t : Tm) (c : Nat) : Bool := ev (m.za.contains c) (m.zb.contains c) t
def cellsOf (m : Mp) (t : Tm) : List Nat := (List.range m.n).filter (inT m t)
/-- small enough to be looked at -/
structure Tm.Ok (t : Tm) : Prop where
  d : td t < 8
  z : tsz t ≤ 1000
theorem cells_nrf (l : List Nat) : nrf (cellsD l) = true := by simp [cellsD, nrf, nrfs_nat]
theorem q_cells_of {m : Mp} {t : Tm} (hm : m.Ok) (ht : t.Ok) (S : Sto) : f_law_cells_of [mpD m, tmD t] S = .ok (cellsD (cellsOf m t)) S := by
  refine fnA_ok (S1 := Sto.nil) (by simp [nrfs, mp_nrf, tm_nrf]) ?_ (cells_nrf _)
  refine fn_rt (st_ret ?_)
  have e : eLc [2] (iRg1 (aCons (eOp oIx (eVar 0) (eC (.int 0))) aNil)) (gN 2) (toB (eCall 2 (f_law_is_in 8) (aCons (eVar 1) (aCons (eCall 2 f_law_member (aCons (eVar 0) (aCons (eVar 2) aNil))) aNil)))) (eVar 2) [some (mpD m), some (tmD t), none] Sto.nil = .ok (.lst ((cellsOf m t).map nD)) Sto.nil := by
    refine eLc_f (emb := nD) (out := nD) (inT m t) (xs := List.range m.n) ?_ (fun c hc => ?_) ?_
    · have := hm.n
      simp only [fnS, env0, sSeq, sSet, sRet, sRetN, sIf, sE, sAsg, sPar, sNx, sPut, R.toS, R.bind, eVar, eC, eOp, eTup, eLst, eLstR, aCons, aNil, eIf, eAn, eOr, eNt, eIsi, toB, tNt, tAn, tOr_, tYs, eCall, eCall0, eB, eMt, eMt0, iSrc, iRg1, iRg2, iEn, iZp, gN, gT, gsCons, gsNil, turnS, List.map_cons, List.map_nil, List.length_cons, List.length_nil, List.replicate, List.cons_append, List.nil_append, List.getElem?_cons_zero, List.getElem?_cons_succ, List.set_cons_zero, List.set_cons_succ, Nat.sub_self, Nat.reduceSub, Nat.reduceAdd, if_true, Bool.false_eq_true, if_false, ite_true, ite_false, List.cons.injEq, and_false, false_and, true_and, and_true, decide_false, decide_true, Bool.not_true, Bool.not_false, Bool.true_and, Bool.false_and, Bool.and_true, Bool.and_false, Bool.or_false, Bool.or_true, Bool.false_or, Bool.true_or, Nat.reduceEqDiff, reduceCtorEq, eSl, pSome, pNone, lcT, wipeE, fits_0, fits_1, fits_2, fits_3, fits_4, mpD, z_t0, nD, small_nat (show m.n ≤ 16777216 by omega), Int.toNat_natCast, irow_0]
      rfl
    · simp only [fnS, env0, sSeq, sSet, sRet, sRetN, sIf, sE, sAsg, sPar, sNx, sPut, R.toS, R.bind, eVar, eC, eOp, eTup, eLst, eLstR, aCons, aNil, eIf, eAn, eOr, eNt, eIsi, toB, tNt, tAn, tOr_, tYs, eCall, eCall0, eB, eMt, eMt0, iSrc, iRg1, iRg2, iEn, iZp, gN, gT, gsCons, gsNil, turnS, List.map_cons, List.map_nil, List.length_cons, List.length_nil, List.replicate, List.cons_append, List.nil_append, List.getElem?_cons_zero, List.getElem?_cons_succ, List.set_cons_zero, List.set_cons_succ, Nat.sub_self, Nat.reduceSub, Nat.reduceAdd, if_true, Bool.false_eq_true, if_false, ite_true, ite_false, List.cons.injEq, and_false, false_and, true_and, and_true, decide_false, decide_true, Bool.not_true, Bool.not_false, Bool.true_and, Bool.false_and, Bool.and_true, Bool.and_false, Bool.or_false, Bool.or_true, Bool.false_or, Bool.true_or, Nat.reduceEqDiff, reduceCtorEq, eSl, pSome, pNone, lcT, wipeE, fits_0, fits_1, fits_2, fits_3, fits_4, q_member, q_is_in 8 t _ _ _ ht.d ht.z, inT]
      exact ite_ok
    · rw [List.length_range]; have := hm.n; omega
  show (eB oTuple (aCons _ aNil)) [some (mpD m), some (tmD t), none] Sto.nil = _
  simp only [fnS, env0, sSeq, sSet, sRet, sRetN, sIf, sE, sAsg, sPar, sNx, sPut, R.toS, R.bind, eVar, eC, eOp, eTup, eLst, eLstR, aCons, aNil, eIf, eAn, eOr, eNt, eIsi, toB, tNt, tAn, tOr_, tYs, eCall, eCall0, eB, eMt, eMt0, iSrc, iRg1, iRg2, iEn, iZp, gN, gT, gsCons, gsNil, turnS, List.map_cons, List.map_nil, List.length_cons, List.length_nil, List.replicate, List.cons_append, List.nil_append, List.getElem?_cons_zero, List.getElem?_cons_succ, List.set_cons_zero, List.set_cons_succ, Nat.sub_self, Nat.reduceSub, Nat.reduceAdd, if_true, Bool.false_eq_true, if_false, ite_true, ite_false, List.cons.injEq, and_false, false_and, true_and, and_true, decide_false, decide_true, Bool.not_true, Bool.not_false, Bool.true_and, Bool.false_and, Bool.and_true, Bool.and_false, Bool.or_false, Bool.or_true, Bool.false_or, Bool.true_or, Nat.reduceEqDiff, reduceCtorEq, eSl, pSome, pNone, lcT, wipeE, fits_0, fits_1, fits_2, fits_3, fits_4, e]
  rfl
def meets (l1 l2 : List Nat) (p : Nat × Nat) : Bool := (l1.contains p.1 && l2.contains p.2) || (l1.contains p.2 && l2.contains p.1)
def seamsOf (m : Mp) (l1 l2 : List Nat) : List (Nat × Nat) := m.seams.filter (meets l1 l2)
def seamsD (l : List (Nat × Nat)) : D := .tup (l.map cpD)
theorem seams_nrf (l : List (Nat × Nat)) : nrf (seamsD l) = true := by simp [seamsD, nrf, nrfs_cp]
theorem q_seams_of {m : Mp} {l1 l2 : List Nat} (hm : m.Ok) (S : Sto) : f_law_seams_of [mpD m, cellsD l1, cellsD l2] S = .ok (seamsD (seamsOf m l1 l2)) S := by
  have hl := hm.sl
  have key := forS_inv (emb := cpD) (turn := turnS (gT 2 (gsCons (gN 4) (gsCons (gN 5) gsNil))) (sE (eMt tyL oExtend (eVar 3) (aCons (eIf (tOr_ (tAn (toB (eOp oIn (eVar 4) (eVar 1))) (toB (eOp oIn (eVar 5) (eVar 2)))) (tAn (toB (eOp oIn (eVar 5) (eVar 1))) (toB (eOp oIn (eVar 4) (eVar 2))))) (eLst (aCons (eTup (aCons (eVar 4) (aCons (eVar 5) aNil))) aNil)) (eLst aNil)) aNil))))
    (fun done ρ S => (∃ r4 r5, ρ = [some (mpD m), some (cellsD l1), some (cellsD l2), some (.ref 0), r4, r5]) ∧ S = st1 ((done.filter (meets l1 l2)).map cpD)) m.seams [some (mpD m), some (cellsD l1), some (cellsD l2), some (.ref 0), none, none] (st1 []) ?_ ⟨⟨none, none, rfl⟩, rfl⟩
  · obtain ⟨ρ', S', e, ⟨r4, r5, eρ⟩, eS⟩ := key
    refine fnA_ok (S1 := S') (by simp [nrfs, mp_nrf, cells_nrf]) ?_ (seams_nrf _)
    refine fn_rt ?_
    unfold m_law_seams_of
    refine sq_nx (st_set (d := .ref 0) (S' := st1 []) rfl) ?_
    refine sq_nx (st_for (ds := m.seams.map cpD) (by simp only [fnS, env0, sSeq, sSet, sRet, sRetN, sIf, sE, sAsg, sPar, sNx, sPut, R.toS, R.bind, eVar, eC, eOp, eTup, eLst, eLstR, aCons, aNil, eIf, eAn, eOr, eNt, eIsi, toB, tNt, tAn, tOr_, tYs, eCall, eCall0, eB, eMt, eMt0, iSrc, iRg1, iRg2, iEn, iZp, gN, gT, gsCons, gsNil, turnS, List.map_cons, List.map_nil, List.length_cons, List.length_nil, List.replicate, List.cons_append, List.nil_append, List.getElem?_cons_zero, List.getElem?_cons_succ, List.set_cons_zero, List.set_cons_succ, Nat.sub_self, Nat.reduceSub, Nat.reduceAdd, if_true, Bool.false_eq_true, if_false, ite_true, ite_false, List.cons.injEq, and_false, false_and, true_and, and_true, decide_false, decide_true, Bool.not_true, Bool.not_false, Bool.true_and, Bool.false_and, Bool.and_true, Bool.and_false, Bool.or_false, Bool.or_true, Bool.false_or, Bool.true_or, Nat.reduceEqDiff, reduceCtorEq, eSl, pSome, pNone, lcT, wipeE, fits_0, fits_1, fits_2, fits_3, fits_4, mpD, z_t1, srcOf]) e) ?_
    refine st_ret ?_
    subst eρ eS
    rfl
  · rintro done x rest ρ S hw ⟨⟨r4, r5, rfl⟩, rfl⟩
    have hlen : (done.filter (meets l1 l2)).length ≤ 1000 := by
      have := List.length_filter_le (meets l1 l2) done
      have : (done ++ x :: rest).length ≤ 1000 := by rw [hw]; exact hl
      simp at this
      omega
    refine ⟨[some (mpD m), some (cellsD l1), some (cellsD l2), some (.ref 0), some (nD x.1), some (nD x.2)], st1 (((done ++ [x]).filter (meets l1 l2)).map cpD), ?_, ⟨_, _, rfl⟩, rfl⟩
    have e : ((done ++ [x]).filter (meets l1 l2)).map cpD = (done.filter (meets l1 l2)).map cpD ++ if meets l1 l2 x = true then [cpD x] else [] := by
      rw [List.filter_append, List.map_append]
      congr 1
      by_cases h : meets l1 l2 x = true
      · rw [if_pos h, List.filter_cons_of_pos h]; rfl
      · rw [if_neg h, List.filter_cons_of_neg h]; rfl
    have h0 : ((done.filter (meets l1 l2)).map cpD).length + 1 ≤ 16777216 := by rw [List.length_map]; omega
    rw [e, show meets l1 l2 x = ((l1.contains x.1 && l2.contains x.2) || (l1.contains x.2 && l2.contains x.1)) from rfl]
    generalize (done.filter (meets l1 l2)).map cpD = acc at h0 ⊢
    have e0 : oExtend (.ref 0) [.lst []] (st1 acc) = .ok .non (st1 (acc ++ [])) := ext_1 (by simp; omega)
    have e1 : oExtend (.ref 0) [.lst [.tup [nD x.1, nD x.2]]] (st1 acc) = .ok .non (st1 (acc ++ [.tup [nD x.1, nD x.2]])) := ext_1 (by simpa using h0)
    simp only [turnS, gT, cpD, rd, fnS, env0, sSeq, sSet, sRet, sRetN, sIf, sE, sAsg, sPar, sNx, sPut, R.toS, R.bind, eVar, eC, eOp, eTup, eLst, eLstR, aCons, aNil, eIf, eAn, eOr, eNt, eIsi, toB, tNt, tAn, tOr_, tYs, eCall, eCall0, eB, eMt, eMt0, iSrc, iRg1, iRg2, iEn, iZp, gN, gT, gsCons, gsNil, turnS, List.map_cons, List.map_nil, List.length_cons, List.length_nil, List.replicate, List.cons_append, List.nil_append, List.getElem?_cons_zero, List.getElem?_cons_succ, List.set_cons_zero, List.set_cons_succ, Nat.sub_self, Nat.reduceSub, Nat.reduceAdd, if_true, Bool.false_eq_true, if_false, ite_true, ite_false, List.cons.injEq, and_false, false_and, true_and, and_true, decide_false, decide_true, Bool.not_true, Bool.not_false, Bool.true_and, Bool.false_and, Bool.and_true, Bool.and_false, Bool.or_false, Bool.or_true, Bool.false_or, Bool.true_or, Nat.reduceEqDiff, reduceCtorEq, eSl, pSome, pNone, lcT, wipeE, fits_0, fits_1, fits_2, fits_3, fits_4, z_inN, show ∀ l, tyL (.ref 0) (st1 l) = true from fun _ => rfl, show fits 2 = true from rfl, show fits 1 = true from rfl, show fits 0 = true from rfl]
    cases l1.contains x.1 <;> cases l2.contains x.2 <;> cases l1.contains x.2 <;> cases l2.contains x.1 <;> simp only [fnS, env0, sSeq, sSet, sRet, sRetN, sIf, sE, sAsg, sPar, sNx, sPut, R.toS, R.bind, eVar, eC, eOp, eTup, eLst, eLstR, aCons, aNil, eIf, eAn, eOr, eNt, eIsi, toB, tNt, tAn, tOr_, tYs, eCall, eCall0, eB, eMt, eMt0, iSrc, iRg1, iRg2, iEn, iZp, gN, gT, gsCons, gsNil, turnS, List.map_cons, List.map_nil, List.length_cons, List.length_nil, List.replicate, List.cons_append, List.nil_append, List.getElem?_cons_zero, List.getElem?_cons_succ, List.set_cons_zero, List.set_cons_succ, Nat.sub_self, Nat.reduceSub, Nat.reduceAdd, if_true, Bool.false_eq_true, if_false, ite_true, ite_false, List.cons.injEq, and_false, false_and, true_and, and_true, decide_false, decide_true, Bool.not_true, Bool.not_false, Bool.true_and, Bool.false_and, Bool.and_true, Bool.and_false, Bool.or_false, Bool.or_true, Bool.false_or, Bool.true_or, Nat.reduceEqDiff, reduceCtorEq, eSl, pSome, pNone, lcT, wipeE, fits_0, fits_1, fits_2, fits_3, fits_4, e0, e1]
/-! ### wishes -/
inductive Ws where
  | one (neg : Bool) (t : Tm) | two (neg : Bool) (t u : Tm)
def w1 (neg : Bool) : List Nat := if neg then [110, 111] else [115, 111, 109, 101]
def w2 (neg : Bool) : List Nat := if neg then [97, 112, 97, 114, 116] else [115, 101, 97, 109]
def wsD : Ws → D
  | .one g t => .tup [.str (w1 g), tmD t]
  | .two g t u => .tup [.str (w2 g), tmD t, tmD u]
def Ws.Ok : Ws → Prop
  | .one _ t => t.Ok
  | .two _ t u => t.Ok ∧ u.Ok
def Ws.neg : Ws → Bool
  | .one g _ => g
  | .two g _ _ => g
def shownL (m : Mp) : Ws → List D
  | .one _ t => (cellsOf m t).map nD
  | .two _ t u => (seamsOf m (cellsOf m t) (cellsOf m u)).map cpD
def has (m : Mp) (w : Ws) : Bool := !(shownL m w).isEmpty
def kept (m : Mp) (w : Ws) : Bool := has m w == !w.neg
theorem ws_nrf (w : Ws) : nrf (wsD w) = true := by cases w <;> simp [wsD, nrf, nrfs, tm_nrf]
theorem shownL_nrf (m : Mp) (w : Ws) : nrfs (shownL m w) = true := by cases w <;> simp [shownL, nrfs_nat, nrfs_cp]
theorem in_w1 (g : Bool) (S : Sto) : oIn (.str (w1 g)) (.tup [.str [115, 111, 109, 101], .str [110, 111]]) S = .ok (.bl true) S := by cases g <;> rfl
theorem in_w2 (g : Bool) (S : Sto) : oIn (.str (w2 g)) (.tup [.str [115, 111, 109, 101], .str [110, 111]]) S = .ok (.bl false) S := by cases g <;> rfl
theorem q_shown {m : Mp} {w : Ws} (hm : m.Ok) (hw : w.Ok) (S : Sto) : f_law_shown [mpD m, wsD w] S = .ok (.tup (shownL m w)) S := by
  refine fnA_ok (S1 := Sto.nil) (by simp [nrfs, mp_nrf, ws_nrf]) ?_ (by simp [nrf, shownL_nrf])
  refine fn_rt ?_
  unfold m_law_shown
  cases w with
  | one g t =>
    have ht : t.Ok := hw
    refine sq_rt (st_ift (S' := Sto.nil) (by simp only [fnS, env0, sSeq, sSet, sRet, sRetN, sIf, sE, sAsg, sPar, sNx, sPut, R.toS, R.bind, eVar, eC, eOp, eTup, eLst, eLstR, aCons, aNil, eIf, eAn, eOr, eNt, eIsi, toB, tNt, tAn, tOr_, tYs, eCall, eCall0, eB, eMt, eMt0, iSrc, iRg1, iRg2, iEn, iZp, gN, gT, gsCons, gsNil, turnS, List.map_cons, List.map_nil, List.length_cons, List.length_nil, List.replicate, List.cons_append, List.nil_append, List.getElem?_cons_zero, List.getElem?_cons_succ, List.set_cons_zero, List.set_cons_succ, Nat.sub_self, Nat.reduceSub, Nat.reduceAdd, if_true, Bool.false_eq_true, if_false, ite_true, ite_false, List.cons.injEq, and_false, false_and, true_and, and_true, decide_false, decide_true, Bool.not_true, Bool.not_false, Bool.true_and, Bool.false_and, Bool.and_true, Bool.and_false, Bool.or_false, Bool.or_true, Bool.false_or, Bool.true_or, Nat.reduceEqDiff, reduceCtorEq, eSl, pSome, pNone, lcT, wipeE, fits_0, fits_1, fits_2, fits_3, fits_4, wsD, z_t0, show fits 2 = true from rfl, in_w1]) (st_ret ?_))
    simp only [fnS, env0, sSeq, sSet, sRet, sRetN, sIf, sE, sAsg, sPar, sNx, sPut, R.toS, R.bind, eVar, eC, eOp, eTup, eLst, eLstR, aCons, aNil, eIf, eAn, eOr, eNt, eIsi, toB, tNt, tAn, tOr_, tYs, eCall, eCall0, eB, eMt, eMt0, iSrc, iRg1, iRg2, iEn, iZp, gN, gT, gsCons, gsNil, turnS, List.map_cons, List.map_nil, List.length_cons, List.length_nil, List.replicate, List.cons_append, List.nil_append, List.getElem?_cons_zero, List.getElem?_cons_succ, List.set_cons_zero, List.set_cons_succ, Nat.sub_self, Nat.reduceSub, Nat.reduceAdd, if_true, Bool.false_eq_true, if_false, ite_true, ite_false, List.cons.injEq, and_false, false_and, true_and, and_true, decide_false, decide_true, Bool.not_true, Bool.not_false, Bool.true_and, Bool.false_and, Bool.and_true, Bool.and_false, Bool.or_false, Bool.or_true, Bool.false_or, Bool.true_or, Nat.reduceEqDiff, reduceCtorEq, eSl, pSome, pNone, lcT, wipeE, fits_0, fits_1, fits_2, fits_3, fits_4, wsD, z_t1, q_cells_of hm ht, shownL, cellsD]
  | two g t u =>
    obtain ⟨ht, hu⟩ : t.Ok ∧ u.Ok := hw
    refine sq_nx (st_iff (S' := Sto.nil) (by simp only [fnS, env0, sSeq, sSet, sRet, sRetN, sIf, sE, sAsg, sPar, sNx, sPut, R.toS, R.bind, eVar, eC, eOp, eTup, eLst, eLstR, aCons, aNil, eIf, eAn, eOr, eNt, eIsi, toB, tNt, tAn, tOr_, tYs, eCall, eCall0, eB, eMt, eMt0, iSrc, iRg1, iRg2, iEn, iZp, gN, gT, gsCons, gsNil, turnS, List.map_cons, List.map_nil, List.length_cons, List.length_nil, List.replicate, List.cons_append, List.nil_append, List.getElem?_cons_zero, List.getElem?_cons_succ, List.set_cons_zero, List.set_cons_succ, Nat.sub_self, Nat.reduceSub, Nat.reduceAdd, if_true, Bool.false_eq_true, if_false, ite_true, ite_false, List.cons.injEq, and_false, false_and, true_and, and_true, decide_false, decide_true, Bool.not_true, Bool.not_false, Bool.true_and, Bool.false_and, Bool.and_true, Bool.and_false, Bool.or_false, Bool.or_true, Bool.false_or, Bool.true_or, Nat.reduceEqDiff, reduceCtorEq, eSl, pSome, pNone, lcT, wipeE, fits_0, fits_1, fits_2, fits_3, fits_4, wsD, z_t0, show fits 2 = true from rfl, in_w2]) st_nx) (st_ret ?_)
    simp only [fnS, env0, sSeq, sSet, sRet, sRetN, sIf, sE, sAsg, sPar, sNx, sPut, R.toS, R.bind, eVar, eC, eOp, eTup, eLst, eLstR, aCons, aNil, eIf, eAn, eOr, eNt, eIsi, toB, tNt, tAn, tOr_, tYs, eCall, eCall0, eB, eMt, eMt0, iSrc, iRg1, iRg2, iEn, iZp, gN, gT, gsCons, gsNil, turnS, List.map_cons, List.map_nil, List.length_cons, List.length_nil, List.replicate, List.cons_append, List.nil_append, List.getElem?_cons_zero, List.getElem?_cons_succ, List.set_cons_zero, List.set_cons_succ, Nat.sub_self, Nat.reduceSub, Nat.reduceAdd, if_true, Bool.false_eq_true, if_false, ite_true, ite_false, List.cons.injEq, and_false, false_and, true_and, and_true, decide_false, decide_true, Bool.not_true, Bool.not_false, Bool.true_and, Bool.false_and, Bool.and_true, Bool.and_false, Bool.or_false, Bool.or_true, Bool.false_or, Bool.true_or, Nat.reduceEqDiff, reduceCtorEq, eSl, pSome, pNone, lcT, wipeE, fits_0, fits_1, fits_2, fits_3, fits_4, wsD, z_t1, z_t2, q_cells_of hm ht, q_cells_of hm hu, q_seams_of hm, shownL, seamsD]
theorem q_is_int {d : D} {S : Sto} (h : val d = true) : f_law_is_int [d] S = .ok (.bl (isI d)) S := p_is_integer h
theorem q_is_count {d : D} {S : Sto} (h : val d = true) : f_law_is_count [d] S = .ok (.bl (isC d)) S := p_is_count h
theorem in_cells {m : Mp} {t : Tm} {c : Nat} (h : c < m.n) : (cellsOf m t).contains c = inT m t c := by
  rw [Bool.eq_iff_iff]
  simp [cellsOf, h]
def meetsT (m : Mp) (t u : Tm) (p : Nat × Nat) : Bool := (inT m t p.1 && inT m u p.2) || (inT m t p.2 && inT m u p.1)
theorem meets_T {m : Mp} (hm : m.Ok) {t u : Tm} {p : Nat × Nat} (h : p ∈ m.seams) : meets (cellsOf m t) (cellsOf m u) p = meetsT m t u p := by
  obtain ⟨h1, h2⟩ := hm.sm p h
  unfold meets meetsT
  rw [in_cells (by omega), in_cells (by omega), in_cells (by omega), in_cells (by omega)]
theorem has_two {m : Mp} (hm : m.Ok) {g : Bool} {t u : Tm} : has m (.two g t u) = m.seams.any (meetsT m t u) := by
  show (!((m.seams.filter (meets (cellsOf m t) (cellsOf m u))).map cpD).isEmpty) = _
  have e : m.seams.filter (meets (cellsOf m t) (cellsOf m u)) = m.seams.filter (meetsT m t u) := List.filter_congr fun p hp => meets_T hm hp
  rw [e]
  generalize m.seams = l
  induction l with
  | nil => rfl
  | cons p l ih =>
    rw [List.any_cons, ← ih]
    by_cases h : meetsT m t u p = true
    · rw [List.filter_cons_of_pos h, h]; rfl
    · rw [List.filter_cons_of_neg h, Bool.eq_false_iff.mpr h]; rfl
end Zk24

namespace Zk24
open PySem PySem.Spec PyProof PyProof.Rows L2 Z
theorem q_keeps {m : Mp} {w : Ws} (hm : m.Ok) (hw : w.Ok) (S : Sto) : f_law_keeps [mpD m, wsD w] S = .ok (.bl (kept m w)) S := by
  refine fnA_ok (S1 := Sto.nil) (by simp [nrfs, mp_nrf, ws_nrf]) ?_ rfl
  refine fn_rt ?_
  unfold m_law_keeps
  cases w with
  | one g t =>
    have ht : t.Ok := hw
    refine sq_nx (st_set (d := .str (w1 g)) (S' := Sto.nil) (by simp only [fnS, env0, sSeq, sSet, sRet, sRetN, sIf, sE, sAsg, sPar, sNx, sPut, R.toS, R.bind, eVar, eC, eOp, eTup, eLst, eLstR, aCons, aNil, eIf, eAn, eOr, eNt, eIsi, toB, tNt, tAn, tOr_, tYs, eCall, eCall0, eB, eMt, eMt0, iSrc, iRg1, iRg2, iEn, iZp, gN, gT, gsCons, gsNil, turnS, List.map_cons, List.map_nil, List.length_cons, List.length_nil, List.replicate, List.cons_append, List.nil_append, List.getElem?_cons_zero, List.getElem?_cons_succ, List.set_cons_zero, List.set_cons_succ, Nat.sub_self, Nat.reduceSub, Nat.reduceAdd, if_true, Bool.false_eq_true, if_false, ite_true, ite_false, List.cons.injEq, and_false, false_and, true_and, and_true, decide_false, decide_true, Bool.not_true, Bool.not_false, Bool.true_and, Bool.false_and, Bool.and_true, Bool.and_false, Bool.or_false, Bool.or_true, Bool.false_or, Bool.true_or, Nat.reduceEqDiff, reduceCtorEq, eSl, pSome, pNone, lcT, wipeE, fits_0, fits_1, fits_2, fits_3, fits_4, wsD, z_t0])) ?_
    refine sq_rt (st_ift (S' := Sto.nil) (by simp only [fnS, env0, sSeq, sSet, sRet, sRetN, sIf, sE, sAsg, sPar, sNx, sPut, R.toS, R.bind, eVar, eC, eOp, eTup, eLst, eLstR, aCons, aNil, eIf, eAn, eOr, eNt, eIsi, toB, tNt, tAn, tOr_, tYs, eCall, eCall0, eB, eMt, eMt0, iSrc, iRg1, iRg2, iEn, iZp, gN, gT, gsCons, gsNil, turnS, List.map_cons, List.map_nil, List.length_cons, List.length_nil, List.replicate, List.cons_append, List.nil_append, List.getElem?_cons_zero, List.getElem?_cons_succ, List.set_cons_zero, List.set_cons_succ, Nat.sub_self, Nat.reduceSub, Nat.reduceAdd, if_true, Bool.false_eq_true, if_false, ite_true, ite_false, List.cons.injEq, and_false, false_and, true_and, and_true, decide_false, decide_true, Bool.not_true, Bool.not_false, Bool.true_and, Bool.false_and, Bool.and_true, Bool.and_false, Bool.or_false, Bool.or_true, Bool.false_or, Bool.true_or, Nat.reduceEqDiff, reduceCtorEq, eSl, pSome, pNone, lcT, wipeE, fits_0, fits_1, fits_2, fits_3, fits_4, show fits 2 = true from rfl, in_w1]) ?_)
    refine sq_nx (st_set (d := .lst ((cellsOf m t).map nD)) (S' := Sto.nil) ?_) (st_ret ?_)
    · refine eLc_f (emb := nD) (out := nD) (inT m t) (xs := List.range m.n) ?_ (fun c hc => ?_) ?_
      · have := hm.n
        simp only [fnS, env0, sSeq, sSet, sRet, sRetN, sIf, sE, sAsg, sPar, sNx, sPut, R.toS, R.bind, eVar, eC, eOp, eTup, eLst, eLstR, aCons, aNil, eIf, eAn, eOr, eNt, eIsi, toB, tNt, tAn, tOr_, tYs, eCall, eCall0, eB, eMt, eMt0, iSrc, iRg1, iRg2, iEn, iZp, gN, gT, gsCons, gsNil, turnS, List.map_cons, List.map_nil, List.length_cons, List.length_nil, List.replicate, List.cons_append, List.nil_append, List.getElem?_cons_zero, List.getElem?_cons_succ, List.set_cons_zero, List.set_cons_succ, Nat.sub_self, Nat.reduceSub, Nat.reduceAdd, if_true, Bool.false_eq_true, if_false, ite_true, ite_false, List.cons.injEq, and_false, false_and, true_and, and_true, decide_false, decide_true, Bool.not_true, Bool.not_false, Bool.true_and, Bool.false_and, Bool.and_true, Bool.and_false, Bool.or_false, Bool.or_true, Bool.false_or, Bool.true_or, Nat.reduceEqDiff, reduceCtorEq, eSl, pSome, pNone, lcT, wipeE, fits_0, fits_1, fits_2, fits_3, fits_4, mpD, z_t0, nD, small_nat (show m.n ≤ 16777216 by omega), Int.toNat_natCast, irow_0]
        rfl
      · simp only [fnS, env0, sSeq, sSet, sRet, sRetN, sIf, sE, sAsg, sPar, sNx, sPut, R.toS, R.bind, eVar, eC, eOp, eTup, eLst, eLstR, aCons, aNil, eIf, eAn, eOr, eNt, eIsi, toB, tNt, tAn, tOr_, tYs, eCall, eCall0, eB, eMt, eMt0, iSrc, iRg1, iRg2, iEn, iZp, gN, gT, gsCons, gsNil, turnS, List.map_cons, List.map_nil, List.length_cons, List.length_nil, List.replicate, List.cons_append, List.nil_append, List.getElem?_cons_zero, List.getElem?_cons_succ, List.set_cons_zero, List.set_cons_succ, Nat.sub_self, Nat.reduceSub, Nat.reduceAdd, if_true, Bool.false_eq_true, if_false, ite_true, ite_false, List.cons.injEq, and_false, false_and, true_and, and_true, decide_false, decide_true, Bool.not_true, Bool.not_false, Bool.true_and, Bool.false_and, Bool.and_true, Bool.and_false, Bool.or_false, Bool.or_true, Bool.false_or, Bool.true_or, Nat.reduceEqDiff, reduceCtorEq, eSl, pSome, pNone, lcT, wipeE, fits_0, fits_1, fits_2, fits_3, fits_4, wsD, z_t1, q_member, q_is_in 8 t _ _ _ ht.d ht.z, inT]
        exact ite_ok
      · rw [List.length_range]; have := hm.n; omega
    · simp only [fnS, env0, sSeq, sSet, sRet, sRetN, sIf, sE, sAsg, sPar, sNx, sPut, R.toS, R.bind, eVar, eC, eOp, eTup, eLst, eLstR, aCons, aNil, eIf, eAn, eOr, eNt, eIsi, toB, tNt, tAn, tOr_, tYs, eCall, eCall0, eB, eMt, eMt0, iSrc, iRg1, iRg2, iEn, iZp, gN, gT, gsCons, gsNil, turnS, List.map_cons, List.map_nil, List.length_cons, List.length_nil, List.replicate, List.cons_append, List.nil_append, List.getElem?_cons_zero, List.getElem?_cons_succ, List.set_cons_zero, List.set_cons_succ, Nat.sub_self, Nat.reduceSub, Nat.reduceAdd, if_true, Bool.false_eq_true, if_false, ite_true, ite_false, List.cons.injEq, and_false, false_and, true_and, and_true, decide_false, decide_true, Bool.not_true, Bool.not_false, Bool.true_and, Bool.false_and, Bool.and_true, Bool.and_false, Bool.or_false, Bool.or_true, Bool.false_or, Bool.true_or, Nat.reduceEqDiff, reduceCtorEq, eSl, pSome, pNone, lcT, wipeE, fits_0, fits_1, fits_2, fits_3, fits_4, show fits 0 = true from rfl, z_neN, z_eqs, z_eqB]
      unfold kept has shownL
      cases g <;> simp [w1, Ws.neg]
  | two g t u =>
    obtain ⟨ht, hu⟩ : t.Ok ∧ u.Ok := hw
    refine sq_nx (st_set (d := .str (w2 g)) (S' := Sto.nil) (by simp only [fnS, env0, sSeq, sSet, sRet, sRetN, sIf, sE, sAsg, sPar, sNx, sPut, R.toS, R.bind, eVar, eC, eOp, eTup, eLst, eLstR, aCons, aNil, eIf, eAn, eOr, eNt, eIsi, toB, tNt, tAn, tOr_, tYs, eCall, eCall0, eB, eMt, eMt0, iSrc, iRg1, iRg2, iEn, iZp, gN, gT, gsCons, gsNil, turnS, List.map_cons, List.map_nil, List.length_cons, List.length_nil, List.replicate, List.cons_append, List.nil_append, List.getElem?_cons_zero, List.getElem?_cons_succ, List.set_cons_zero, List.set_cons_succ, Nat.sub_self, Nat.reduceSub, Nat.reduceAdd, if_true, Bool.false_eq_true, if_false, ite_true, ite_false, List.cons.injEq, and_false, false_and, true_and, and_true, decide_false, decide_true, Bool.not_true, Bool.not_false, Bool.true_and, Bool.false_and, Bool.and_true, Bool.and_false, Bool.or_false, Bool.or_true, Bool.false_or, Bool.true_or, Nat.reduceEqDiff, reduceCtorEq, eSl, pSome, pNone, lcT, wipeE, fits_0, fits_1, fits_2, fits_3, fits_4, wsD, z_t0])) ?_
    refine sq_nx (st_iff (S' := Sto.nil) (by simp only [fnS, env0, sSeq, sSet, sRet, sRetN, sIf, sE, sAsg, sPar, sNx, sPut, R.toS, R.bind, eVar, eC, eOp, eTup, eLst, eLstR, aCons, aNil, eIf, eAn, eOr, eNt, eIsi, toB, tNt, tAn, tOr_, tYs, eCall, eCall0, eB, eMt, eMt0, iSrc, iRg1, iRg2, iEn, iZp, gN, gT, gsCons, gsNil, turnS, List.map_cons, List.map_nil, List.length_cons, List.length_nil, List.replicate, List.cons_append, List.nil_append, List.getElem?_cons_zero, List.getElem?_cons_succ, List.set_cons_zero, List.set_cons_succ, Nat.sub_self, Nat.reduceSub, Nat.reduceAdd, if_true, Bool.false_eq_true, if_false, ite_true, ite_false, List.cons.injEq, and_false, false_and, true_and, and_true, decide_false, decide_true, Bool.not_true, Bool.not_false, Bool.true_and, Bool.false_and, Bool.and_true, Bool.and_false, Bool.or_false, Bool.or_true, Bool.false_or, Bool.true_or, Nat.reduceEqDiff, reduceCtorEq, eSl, pSome, pNone, lcT, wipeE, fits_0, fits_1, fits_2, fits_3, fits_4, show fits 2 = true from rfl, in_w2]) st_nx) ?_
    refine sq_nx (st_set (d := .bl false) (S' := Sto.nil) rfl) ?_
    refine sq_for (emb := cpD) (fun done ρ S => (∃ r4 r5 r6 r7, ρ = [some (mpD m), some (wsD (.two g t u)), some (.str (w2 g)), some (.bl (done.any (meetsT m t u))), r4, r5, r6, r7, none]) ∧ S = Sto.nil) m.seams ?_ ?_ ?_ ?_
    · simp only [fnS, env0, sSeq, sSet, sRet, sRetN, sIf, sE, sAsg, sPar, sNx, sPut, R.toS, R.bind, eVar, eC, eOp, eTup, eLst, eLstR, aCons, aNil, eIf, eAn, eOr, eNt, eIsi, toB, tNt, tAn, tOr_, tYs, eCall, eCall0, eB, eMt, eMt0, iSrc, iRg1, iRg2, iEn, iZp, gN, gT, gsCons, gsNil, turnS, List.map_cons, List.map_nil, List.length_cons, List.length_nil, List.replicate, List.cons_append, List.nil_append, List.getElem?_cons_zero, List.getElem?_cons_succ, List.set_cons_zero, List.set_cons_succ, Nat.sub_self, Nat.reduceSub, Nat.reduceAdd, if_true, Bool.false_eq_true, if_false, ite_true, ite_false, List.cons.injEq, and_false, false_and, true_and, and_true, decide_false, decide_true, Bool.not_true, Bool.not_false, Bool.true_and, Bool.false_and, Bool.and_true, Bool.and_false, Bool.or_false, Bool.or_true, Bool.false_or, Bool.true_or, Nat.reduceEqDiff, reduceCtorEq, eSl, pSome, pNone, lcT, wipeE, fits_0, fits_1, fits_2, fits_3, fits_4, mpD, z_t1, srcOf]
    · exact ⟨⟨none, none, none, none, rfl⟩, rfl⟩
    · rintro done x rest ρ S hwh ⟨⟨r4, r5, r6, r7, rfl⟩, rfl⟩
      refine ⟨[some (mpD m), some (wsD (.two g t u)), some (.str (w2 g)), some (.bl ((done ++ [x]).any (meetsT m t u))), some (nD x.1), some (nD x.2), some (memD (m.za.contains x.1) (m.zb.contains x.1)), some (memD (m.za.contains x.2) (m.zb.contains x.2)), none], Sto.nil, ?_, ⟨_, _, _, _, rfl⟩, rfl⟩
      simp only [turnS, gT, cpD, rd, fnS, env0, sSeq, sSet, sRet, sRetN, sIf, sE, sAsg, sPar, sNx, sPut, R.toS, R.bind, eVar, eC, eOp, eTup, eLst, eLstR, aCons, aNil, eIf, eAn, eOr, eNt, eIsi, toB, tNt, tAn, tOr_, tYs, eCall, eCall0, eB, eMt, eMt0, iSrc, iRg1, iRg2, iEn, iZp, gN, gT, gsCons, gsNil, turnS, List.map_cons, List.map_nil, List.length_cons, List.length_nil, List.replicate, List.cons_append, List.nil_append, List.getElem?_cons_zero, List.getElem?_cons_succ, List.set_cons_zero, List.set_cons_succ, Nat.sub_self, Nat.reduceSub, Nat.reduceAdd, if_true, Bool.false_eq_true, if_false, ite_true, ite_false, List.cons.injEq, and_false, false_and, true_and, and_true, decide_false, decide_true, Bool.not_true, Bool.not_false, Bool.true_and, Bool.false_and, Bool.and_true, Bool.and_false, Bool.or_false, Bool.or_true, Bool.false_or, Bool.true_or, Nat.reduceEqDiff, reduceCtorEq, eSl, pSome, pNone, lcT, wipeE, fits_0, fits_1, fits_2, fits_3, fits_4, q_member, wsD, z_t1, z_t2, q_is_in 8 t _ _ _ ht.d ht.z, q_is_in 8 u _ _ _ hu.d hu.z, z_or, z_and, List.any_append, List.any_cons, List.any_nil, meetsT, inT]
      rw [Bool.or_assoc]
    · rintro ρ' S' ⟨⟨r4, r5, r6, r7, rfl⟩, rfl⟩
      refine st_ret ?_
      simp only [fnS, env0, sSeq, sSet, sRet, sRetN, sIf, sE, sAsg, sPar, sNx, sPut, R.toS, R.bind, eVar, eC, eOp, eTup, eLst, eLstR, aCons, aNil, eIf, eAn, eOr, eNt, eIsi, toB, tNt, tAn, tOr_, tYs, eCall, eCall0, eB, eMt, eMt0, iSrc, iRg1, iRg2, iEn, iZp, gN, gT, gsCons, gsNil, turnS, List.map_cons, List.map_nil, List.length_cons, List.length_nil, List.replicate, List.cons_append, List.nil_append, List.getElem?_cons_zero, List.getElem?_cons_succ, List.set_cons_zero, List.set_cons_succ, Nat.sub_self, Nat.reduceSub, Nat.reduceAdd, if_true, Bool.false_eq_true, if_false, ite_true, ite_false, List.cons.injEq, and_false, false_and, true_and, and_true, decide_false, decide_true, Bool.not_true, Bool.not_false, Bool.true_and, Bool.false_and, Bool.and_true, Bool.and_false, Bool.or_false, Bool.or_true, Bool.false_or, Bool.true_or, Nat.reduceEqDiff, reduceCtorEq, eSl, pSome, pNone, lcT, wipeE, fits_0, fits_1, fits_2, fits_3, fits_4, z_eqs, z_eqB]
      unfold kept
      rw [has_two hm]
      cases g <;> simp [w2, Ws.neg]
theorem shownL_shp (m : Mp) (w : Ws) : shp 60 (.tup (shownL m w)) = true := by
  cases w with
  | one g t => rw [shp]; exact shps_nat 59 _
  | two g t u => rw [shp]; exact shps_cp 58 _
theorem val_tup {ds : List D} (h : val (.tup ds) = true) {d : D} (hd : d ∈ ds) : val d = true := by
  obtain ⟨h1, h2⟩ := Bool.and_eq_true_iff.mp h
  have a1 : ∀ (l : List D), nrfs l = true → ∀ d ∈ l, nrf d = true := by
    intro l
    induction l with
    | nil => intro _ d hd; cases hd
    | cons x l ih =>
      intro hl d hd
      obtain ⟨b1, b2⟩ := Bool.and_eq_true_iff.mp (show (nrf x && nrfs l) = true by simpa [nrfs] using hl)
      rcases List.mem_cons.mp hd with e | e
      · rw [e]; exact b1
      · exact ih b2 d e
  have a2 : ∀ (l : List D), shps 50 l = true → ∀ d ∈ l, shp 49 d = true := by
    intro l
    induction l with
    | nil => intro _ d hd; cases hd
    | cons x l ih =>
      intro hl d hd
      obtain ⟨b1, b2⟩ := Bool.and_eq_true_iff.mp (show (shp 49 x && shps 50 l) = true by simpa [shps] using hl)
      rcases List.mem_cons.mp hd with e | e
      · rw [e]; exact b1
      · exact ih b2 d e
  unfold val
  rw [a1 ds (by simpa [nrf] using h1) d hd, shp_mono d (show 49 ≤ 50 by decide) (a2 ds (by simpa [shp] using h2) d hd)]
  rfl
def inShown (m : Mp) (w : Ws) (d : D) : Bool := (shownL m w).any fun z => eqv z d
def isCp : D → Bool
  | .tup [x, y] => isC x && isC y
  | _ => false
def isShown (m : Mp) (w : Ws) (d : D) : Bool := (match w with | .one _ _ => isC d | .two _ _ _ => isCp d) && inShown m w d
theorem val_tys {t : Tyn} {d : D} (h : val d = true) : rd Sto.nil d = d := rd_val (val_nrf h)
/-- what is a tuple, and what is none -/
theorem tup_or {d : D} (h : val d = true) : (∃ ds, d = .tup ds) ∨ ((∀ ds, d ≠ .tup ds) ∧ tyB .tuple d = some false) := by
  cases d with
  | tup ds => exact .inl ⟨ds, rfl⟩
  | _ => first
    | (have := val_shp h; simp [shp] at this; done)
    | (have := val_nrf h; simp [nrf] at this; done)
    | exact .inr ⟨fun _ e => by (cases e), rfl⟩
theorem q_is_shown {m : Mp} {w : Ws} {d : D} (hm : m.Ok) (hw : w.Ok) (h : val d = true) (S : Sto) : f_law_is_shown [mpD m, wsD w, d] S = .ok (.bl (isShown m w d)) S := by
  refine fnA_ok (S1 := Sto.nil) (by simp [nrfs, mp_nrf, ws_nrf, val_nrf h]) ?_ rfl
  refine fn_rt ?_
  unfold m_law_is_shown
  have hin : ∀ S, oIn d (.tup (shownL m w)) S = .ok (.bl (inShown m w d)) S := fun S => z_inT (val_nrf h) (val_60 h) (shownL_shp m w)
  cases w with
  | one g t =>
    refine sq_rt (st_ift (S' := Sto.nil) (by simp only [fnS, env0, sSeq, sSet, sRet, sRetN, sIf, sE, sAsg, sPar, sNx, sPut, R.toS, R.bind, eVar, eC, eOp, eTup, eLst, eLstR, aCons, aNil, eIf, eAn, eOr, eNt, eIsi, toB, tNt, tAn, tOr_, tYs, eCall, eCall0, eB, eMt, eMt0, iSrc, iRg1, iRg2, iEn, iZp, gN, gT, gsCons, gsNil, turnS, List.map_cons, List.map_nil, List.length_cons, List.length_nil, List.replicate, List.cons_append, List.nil_append, List.getElem?_cons_zero, List.getElem?_cons_succ, List.set_cons_zero, List.set_cons_succ, Nat.sub_self, Nat.reduceSub, Nat.reduceAdd, if_true, Bool.false_eq_true, if_false, ite_true, ite_false, List.cons.injEq, and_false, false_and, true_and, and_true, decide_false, decide_true, Bool.not_true, Bool.not_false, Bool.true_and, Bool.false_and, Bool.and_true, Bool.and_false, Bool.or_false, Bool.or_true, Bool.false_or, Bool.true_or, Nat.reduceEqDiff, reduceCtorEq, eSl, pSome, pNone, lcT, wipeE, fits_0, fits_1, fits_2, fits_3, fits_4, wsD, z_t0, show fits 2 = true from rfl, in_w1]) (st_ret ?_))
    simp only [fnS, env0, sSeq, sSet, sRet, sRetN, sIf, sE, sAsg, sPar, sNx, sPut, R.toS, R.bind, eVar, eC, eOp, eTup, eLst, eLstR, aCons, aNil, eIf, eAn, eOr, eNt, eIsi, toB, tNt, tAn, tOr_, tYs, eCall, eCall0, eB, eMt, eMt0, iSrc, iRg1, iRg2, iEn, iZp, gN, gT, gsCons, gsNil, turnS, List.map_cons, List.map_nil, List.length_cons, List.length_nil, List.replicate, List.cons_append, List.nil_append, List.getElem?_cons_zero, List.getElem?_cons_succ, List.set_cons_zero, List.set_cons_succ, Nat.sub_self, Nat.reduceSub, Nat.reduceAdd, if_true, Bool.false_eq_true, if_false, ite_true, ite_false, List.cons.injEq, and_false, false_and, true_and, and_true, decide_false, decide_true, Bool.not_true, Bool.not_false, Bool.true_and, Bool.false_and, Bool.and_true, Bool.and_false, Bool.or_false, Bool.or_true, Bool.false_or, Bool.true_or, Nat.reduceEqDiff, reduceCtorEq, eSl, pSome, pNone, lcT, wipeE, fits_0, fits_1, fits_2, fits_3, fits_4, q_is_count h, q_shown hm hw, hin, z_and]
    rfl
  | two g t u =>
    refine sq_nx (st_iff (S' := Sto.nil) (by simp only [fnS, env0, sSeq, sSet, sRet, sRetN, sIf, sE, sAsg, sPar, sNx, sPut, R.toS, R.bind, eVar, eC, eOp, eTup, eLst, eLstR, aCons, aNil, eIf, eAn, eOr, eNt, eIsi, toB, tNt, tAn, tOr_, tYs, eCall, eCall0, eB, eMt, eMt0, iSrc, iRg1, iRg2, iEn, iZp, gN, gT, gsCons, gsNil, turnS, List.map_cons, List.map_nil, List.length_cons, List.length_nil, List.replicate, List.cons_append, List.nil_append, List.getElem?_cons_zero, List.getElem?_cons_succ, List.set_cons_zero, List.set_cons_succ, Nat.sub_self, Nat.reduceSub, Nat.reduceAdd, if_true, Bool.false_eq_true, if_false, ite_true, ite_false, List.cons.injEq, and_false, false_and, true_and, and_true, decide_false, decide_true, Bool.not_true, Bool.not_false, Bool.true_and, Bool.false_and, Bool.and_true, Bool.and_false, Bool.or_false, Bool.or_true, Bool.false_or, Bool.true_or, Nat.reduceEqDiff, reduceCtorEq, eSl, pSome, pNone, lcT, wipeE, fits_0, fits_1, fits_2, fits_3, fits_4, wsD, z_t0, show fits 2 = true from rfl, in_w2]) st_nx) ?_
    rcases tup_or h with ⟨ds, rfl⟩ | ⟨hn, ht⟩
    · rcases ds with _ | ⟨x, _ | ⟨y, _ | ⟨z, r⟩⟩⟩
      · rfl
      · rfl
      · have hx : val x = true := val_tup h (by simp)
        have hy : val y = true := val_tup h (by simp)
        cases cx : isC x with
        | false =>
          refine sq_rt (st_ift (S' := Sto.nil) ?_ (st_ret (by simp only [fnS, env0, sSeq, sSet, sRet, sRetN, sIf, sE, sAsg, sPar, sNx, sPut, R.toS, R.bind, eVar, eC, eOp, eTup, eLst, eLstR, aCons, aNil, eIf, eAn, eOr, eNt, eIsi, toB, tNt, tAn, tOr_, tYs, eCall, eCall0, eB, eMt, eMt0, iSrc, iRg1, iRg2, iEn, iZp, gN, gT, gsCons, gsNil, turnS, List.map_cons, List.map_nil, List.length_cons, List.length_nil, List.replicate, List.cons_append, List.nil_append, List.getElem?_cons_zero, List.getElem?_cons_succ, List.set_cons_zero, List.set_cons_succ, Nat.sub_self, Nat.reduceSub, Nat.reduceAdd, if_true, Bool.false_eq_true, if_false, ite_true, ite_false, List.cons.injEq, and_false, false_and, true_and, and_true, decide_false, decide_true, Bool.not_true, Bool.not_false, Bool.true_and, Bool.false_and, Bool.and_true, Bool.and_false, Bool.or_false, Bool.or_true, Bool.false_or, Bool.true_or, Nat.reduceEqDiff, reduceCtorEq, eSl, pSome, pNone, lcT, wipeE, fits_0, fits_1, fits_2, fits_3, fits_4, isShown, isCp, cx])))
          simp only [fnS, env0, sSeq, sSet, sRet, sRetN, sIf, sE, sAsg, sPar, sNx, sPut, R.toS, R.bind, eVar, eC, eOp, eTup, eLst, eLstR, aCons, aNil, eIf, eAn, eOr, eNt, eIsi, toB, tNt, tAn, tOr_, tYs, eCall, eCall0, eB, eMt, eMt0, iSrc, iRg1, iRg2, iEn, iZp, gN, gT, gsCons, gsNil, turnS, List.map_cons, List.map_nil, List.length_cons, List.length_nil, List.replicate, List.cons_append, List.nil_append, List.getElem?_cons_zero, List.getElem?_cons_succ, List.set_cons_zero, List.set_cons_succ, Nat.sub_self, Nat.reduceSub, Nat.reduceAdd, if_true, Bool.false_eq_true, if_false, ite_true, ite_false, List.cons.injEq, and_false, false_and, true_and, and_true, decide_false, decide_true, Bool.not_true, Bool.not_false, Bool.true_and, Bool.false_and, Bool.and_true, Bool.and_false, Bool.or_false, Bool.or_true, Bool.false_or, Bool.true_or, Nat.reduceEqDiff, reduceCtorEq, eSl, pSome, pNone, lcT, wipeE, fits_0, fits_1, fits_2, fits_3, fits_4, eIsi, tyB, rd, oLen, z_nei, z_t0, z_t1, q_is_count hx, q_is_count hy, cx, List.length_cons, List.length_nil, show ((0 + 1 + 1 : Nat) : Int) = 2 from rfl]
        | true =>
          cases cy : isC y with
          | false =>
            refine sq_rt (st_ift (S' := Sto.nil) ?_ (st_ret (by simp only [fnS, env0, sSeq, sSet, sRet, sRetN, sIf, sE, sAsg, sPar, sNx, sPut, R.toS, R.bind, eVar, eC, eOp, eTup, eLst, eLstR, aCons, aNil, eIf, eAn, eOr, eNt, eIsi, toB, tNt, tAn, tOr_, tYs, eCall, eCall0, eB, eMt, eMt0, iSrc, iRg1, iRg2, iEn, iZp, gN, gT, gsCons, gsNil, turnS, List.map_cons, List.map_nil, List.length_cons, List.length_nil, List.replicate, List.cons_append, List.nil_append, List.getElem?_cons_zero, List.getElem?_cons_succ, List.set_cons_zero, List.set_cons_succ, Nat.sub_self, Nat.reduceSub, Nat.reduceAdd, if_true, Bool.false_eq_true, if_false, ite_true, ite_false, List.cons.injEq, and_false, false_and, true_and, and_true, decide_false, decide_true, Bool.not_true, Bool.not_false, Bool.true_and, Bool.false_and, Bool.and_true, Bool.and_false, Bool.or_false, Bool.or_true, Bool.false_or, Bool.true_or, Nat.reduceEqDiff, reduceCtorEq, eSl, pSome, pNone, lcT, wipeE, fits_0, fits_1, fits_2, fits_3, fits_4, isShown, isCp, cx, cy])))
            simp only [fnS, env0, sSeq, sSet, sRet, sRetN, sIf, sE, sAsg, sPar, sNx, sPut, R.toS, R.bind, eVar, eC, eOp, eTup, eLst, eLstR, aCons, aNil, eIf, eAn, eOr, eNt, eIsi, toB, tNt, tAn, tOr_, tYs, eCall, eCall0, eB, eMt, eMt0, iSrc, iRg1, iRg2, iEn, iZp, gN, gT, gsCons, gsNil, turnS, List.map_cons, List.map_nil, List.length_cons, List.length_nil, List.replicate, List.cons_append, List.nil_append, List.getElem?_cons_zero, List.getElem?_cons_succ, List.set_cons_zero, List.set_cons_succ, Nat.sub_self, Nat.reduceSub, Nat.reduceAdd, if_true, Bool.false_eq_true, if_false, ite_true, ite_false, List.cons.injEq, and_false, false_and, true_and, and_true, decide_false, decide_true, Bool.not_true, Bool.not_false, Bool.true_and, Bool.false_and, Bool.and_true, Bool.and_false, Bool.or_false, Bool.or_true, Bool.false_or, Bool.true_or, Nat.reduceEqDiff, reduceCtorEq, eSl, pSome, pNone, lcT, wipeE, fits_0, fits_1, fits_2, fits_3, fits_4, eIsi, tyB, rd, oLen, z_nei, z_t0, z_t1, q_is_count hx, q_is_count hy, cx, cy, List.length_cons, List.length_nil, show ((0 + 1 + 1 : Nat) : Int) = 2 from rfl]
          | true =>
            refine sq_nx (st_iff (S' := Sto.nil) ?_ st_nx) (st_ret ?_)
            · simp only [fnS, env0, sSeq, sSet, sRet, sRetN, sIf, sE, sAsg, sPar, sNx, sPut, R.toS, R.bind, eVar, eC, eOp, eTup, eLst, eLstR, aCons, aNil, eIf, eAn, eOr, eNt, eIsi, toB, tNt, tAn, tOr_, tYs, eCall, eCall0, eB, eMt, eMt0, iSrc, iRg1, iRg2, iEn, iZp, gN, gT, gsCons, gsNil, turnS, List.map_cons, List.map_nil, List.length_cons, List.length_nil, List.replicate, List.cons_append, List.nil_append, List.getElem?_cons_zero, List.getElem?_cons_succ, List.set_cons_zero, List.set_cons_succ, Nat.sub_self, Nat.reduceSub, Nat.reduceAdd, if_true, Bool.false_eq_true, if_false, ite_true, ite_false, List.cons.injEq, and_false, false_and, true_and, and_true, decide_false, decide_true, Bool.not_true, Bool.not_false, Bool.true_and, Bool.false_and, Bool.and_true, Bool.and_false, Bool.or_false, Bool.or_true, Bool.false_or, Bool.true_or, Nat.reduceEqDiff, reduceCtorEq, eSl, pSome, pNone, lcT, wipeE, fits_0, fits_1, fits_2, fits_3, fits_4, eIsi, tyB, rd, oLen, z_nei, z_t0, z_t1, q_is_count hx, q_is_count hy, cx, cy, List.length_cons, List.length_nil, show ((0 + 1 + 1 : Nat) : Int) = 2 from rfl]
            · simp only [fnS, env0, sSeq, sSet, sRet, sRetN, sIf, sE, sAsg, sPar, sNx, sPut, R.toS, R.bind, eVar, eC, eOp, eTup, eLst, eLstR, aCons, aNil, eIf, eAn, eOr, eNt, eIsi, toB, tNt, tAn, tOr_, tYs, eCall, eCall0, eB, eMt, eMt0, iSrc, iRg1, iRg2, iEn, iZp, gN, gT, gsCons, gsNil, turnS, List.map_cons, List.map_nil, List.length_cons, List.length_nil, List.replicate, List.cons_append, List.nil_append, List.getElem?_cons_zero, List.getElem?_cons_succ, List.set_cons_zero, List.set_cons_succ, Nat.sub_self, Nat.reduceSub, Nat.reduceAdd, if_true, Bool.false_eq_true, if_false, ite_true, ite_false, List.cons.injEq, and_false, false_and, true_and, and_true, decide_false, decide_true, Bool.not_true, Bool.not_false, Bool.true_and, Bool.false_and, Bool.and_true, Bool.and_false, Bool.or_false, Bool.or_true, Bool.false_or, Bool.true_or, Nat.reduceEqDiff, reduceCtorEq, eSl, pSome, pNone, lcT, wipeE, fits_0, fits_1, fits_2, fits_3, fits_4, q_shown hm hw, hin, isShown, isCp, cx, cy]
      · refine sq_rt (st_ift (S' := Sto.nil) ?_ (st_ret rfl))
        simp only [fnS, env0, sSeq, sSet, sRet, sRetN, sIf, sE, sAsg, sPar, sNx, sPut, R.toS, R.bind, eVar, eC, eOp, eTup, eLst, eLstR, aCons, aNil, eIf, eAn, eOr, eNt, eIsi, toB, tNt, tAn, tOr_, tYs, eCall, eCall0, eB, eMt, eMt0, iSrc, iRg1, iRg2, iEn, iZp, gN, gT, gsCons, gsNil, turnS, List.map_cons, List.map_nil, List.length_cons, List.length_nil, List.replicate, List.cons_append, List.nil_append, List.getElem?_cons_zero, List.getElem?_cons_succ, List.set_cons_zero, List.set_cons_succ, Nat.sub_self, Nat.reduceSub, Nat.reduceAdd, if_true, Bool.false_eq_true, if_false, ite_true, ite_false, List.cons.injEq, and_false, false_and, true_and, and_true, decide_false, decide_true, Bool.not_true, Bool.not_false, Bool.true_and, Bool.false_and, Bool.and_true, Bool.and_false, Bool.or_false, Bool.or_true, Bool.false_or, Bool.true_or, Nat.reduceEqDiff, reduceCtorEq, eSl, pSome, pNone, lcT, wipeE, fits_0, fits_1, fits_2, fits_3, fits_4, eIsi, tyB, rd, oLen, z_nei]
        have : ¬ (((r.length + 1 + 1 + 1 : Nat) : Int) = 2) := by omega
        simp only [List.length_cons, decide_eq_false this, fnS, env0, sSeq, sSet, sRet, sRetN, sIf, sE, sAsg, sPar, sNx, sPut, R.toS, R.bind, eVar, eC, eOp, eTup, eLst, eLstR, aCons, aNil, eIf, eAn, eOr, eNt, eIsi, toB, tNt, tAn, tOr_, tYs, eCall, eCall0, eB, eMt, eMt0, iSrc, iRg1, iRg2, iEn, iZp, gN, gT, gsCons, gsNil, turnS, List.map_cons, List.map_nil, List.length_cons, List.length_nil, List.replicate, List.cons_append, List.nil_append, List.getElem?_cons_zero, List.getElem?_cons_succ, List.set_cons_zero, List.set_cons_succ, Nat.sub_self, Nat.reduceSub, Nat.reduceAdd, if_true, Bool.false_eq_true, if_false, ite_true, ite_false, List.cons.injEq, and_false, false_and, true_and, and_true, decide_false, decide_true, Bool.not_true, Bool.not_false, Bool.true_and, Bool.false_and, Bool.and_true, Bool.and_false, Bool.or_false, Bool.or_true, Bool.false_or, Bool.true_or, Nat.reduceEqDiff, reduceCtorEq, eSl, pSome, pNone, lcT, wipeE, fits_0, fits_1, fits_2, fits_3, fits_4]
    · refine sq_rt (st_ift (S' := Sto.nil) ?_ (st_ret ?_))
      · simp only [fnS, env0, sSeq, sSet, sRet, sRetN, sIf, sE, sAsg, sPar, sNx, sPut, R.toS, R.bind, eVar, eC, eOp, eTup, eLst, eLstR, aCons, aNil, eIf, eAn, eOr, eNt, eIsi, toB, tNt, tAn, tOr_, tYs, eCall, eCall0, eB, eMt, eMt0, iSrc, iRg1, iRg2, iEn, iZp, gN, gT, gsCons, gsNil, turnS, List.map_cons, List.map_nil, List.length_cons, List.length_nil, List.replicate, List.cons_append, List.nil_append, List.getElem?_cons_zero, List.getElem?_cons_succ, List.set_cons_zero, List.set_cons_succ, Nat.sub_self, Nat.reduceSub, Nat.reduceAdd, if_true, Bool.false_eq_true, if_false, ite_true, ite_false, List.cons.injEq, and_false, false_and, true_and, and_true, decide_false, decide_true, Bool.not_true, Bool.not_false, Bool.true_and, Bool.false_and, Bool.and_true, Bool.and_false, Bool.or_false, Bool.or_true, Bool.false_or, Bool.true_or, Nat.reduceEqDiff, reduceCtorEq, eSl, pSome, pNone, lcT, wipeE, fits_0, fits_1, fits_2, fits_3, fits_4, eIsi, rd_val (val_nrf h), ht]
      · unfold isShown isCp
        cases d <;> first | rfl | exact absurd rfl (hn _)
end Zk24

namespace Zk24
open PySem PySem.Spec PyProof PyProof.Rows L2 Z
def Ws.flip : Ws → Ws
  | .one g t => .one (!g) t
  | .two g t u => .two (!g) t u
theorem q_contrary {w : Ws} (S : Sto) : f_law_contrary [wsD w] S = .ok (wsD w.flip) S := by
  refine fnA_ok (S1 := Sto.nil) (by simp [nrfs, ws_nrf]) ?_ (ws_nrf _)
  cases w with
  | one g t => cases g <;> rfl
  | two g t u => cases g <;> rfl
def isNon : D → Bool
  | .non => true
  | _ => false
def rowOk (m : Mp) (w : Ws) (d : D) : Bool := if w.neg then isNon d && kept m w else isShown m w d
def rowsOk (m : Mp) : List Ws → List D → Bool
  | w :: ws, d :: ds => rowOk m w d && rowsOk m ws ds
  | _, _ => true
def hint (m : Mp) (w : Ws) (d : D) : Bool := if w.neg then isShown m w d else isNon d
def isBroken (m : Mp) (ws : List Ws) (x y : D) : Bool := match x with
  | .int i => if 0 ≤ i then (match ws[i.toNat]? with
    | some w => !kept m w && hint m w y
    | none => false) else false
  | _ => false
theorem isB_int (m : Mp) (ws : List Ws) (i : Int) (y : D) : isBroken m ws (.int i) y = if 0 ≤ i then (match ws[i.toNat]? with
    | some w => !kept m w && hint m w y
    | none => false) else false := rfl
def sKept : List Nat := [107, 101, 112, 116]
def sBroken : List Nat := [98, 114, 111, 107, 101, 110]
def isPaper (m : Mp) (ws : List Ws) : D → Bool
  | .tup [.str s, d] => if s = sKept then (match d with | .tup ds => decide (ds.length = ws.length) && rowsOk m ws ds | _ => false) else false
  | .tup [.str s, x, y] => if s = sBroken then isBroken m ws x y else false
  | _ => false
def wsDs (ws : List Ws) : D := .tup (ws.map wsD)
theorem nrfs_ws : ∀ ws : List Ws, nrfs (ws.map wsD) = true
  | [] => rfl
  | w :: ws => by rw [List.map_cons, nrfs, ws_nrf, nrfs_ws ws]; rfl
theorem wsDs_nrf (ws : List Ws) : nrf (wsDs ws) = true := by simp [wsDs, nrf, nrfs_ws]
theorem str_or {d : D} (h : val d = true) : (∃ s, d = .str s) ∨ ((∀ s, d ≠ .str s) ∧ tyB .str d = some false) := by
  cases d with
  | str s => exact .inl ⟨s, rfl⟩
  | _ => first
    | (have := val_shp h; simp [shp] at this; done)
    | (have := val_nrf h; simp [nrf] at this; done)
    | exact .inr ⟨fun _ e => by (cases e), rfl⟩
theorem z_isN {d : D} {S : Sto} (h : val d = true) : oIs d .non S = .ok (.bl (isNon d)) S := by
  cases d <;> first | rfl | (have := val_nrf h; simp [nrf] at this; done) | (have := val_shp h; simp [shp] at this; done)
theorem z_isNN {d : D} {S : Sto} (h : val d = true) : oIsNot d .non S = .ok (.bl (!isNon d)) S := by
  cases d <;> first | rfl | (have := val_nrf h; simp [nrf] at this; done) | (have := val_shp h; simp [shp] at this; done)
def askL : D := .tup [.str [115, 111, 109, 101], .str [115, 101, 97, 109]]
def denL : D := .tup [.str [110, 111], .str [97, 112, 97, 114, 116]]
def Ws.nm : Ws → List Nat
  | .one g _ => w1 g
  | .two g _ _ => w2 g
theorem ws_0 (w : Ws) (S : Sto) : oIx (wsD w) (.int 0) S = .ok (.str w.nm) S := by cases w <;> exact z_t0
theorem in_ask (w : Ws) (S : Sto) : oIn (.str w.nm) (.tup [.str [115, 111, 109, 101], .str [115, 101, 97, 109]]) S = .ok (.bl (!w.neg)) S := by
  cases w with
  | one g t => cases g <;> rfl
  | two g t u => cases g <;> rfl
theorem in_den (w : Ws) (S : Sto) : oIn (.str w.nm) (.tup [.str [110, 111], .str [97, 112, 97, 114, 116]]) S = .ok (.bl w.neg) S := by
  cases w with
  | one g t => cases g <;> rfl
  | two g t u => cases g <;> rfl
theorem rowsOk_zip (m : Mp) : ∀ (ws : List Ws) (ds : List D), rowsOk m ws ds = (ws.zip ds).all fun p => rowOk m p.1 p.2
  | [], _ => rfl
  | _ :: _, [] => rfl
  | w :: ws, d :: ds => by rw [List.zip_cons_cons, List.all_cons, ← rowsOk_zip m ws ds]; rfl
theorem q_is_paper {m : Mp} {ws : List Ws} {d : D} (hm : m.Ok) (hw : ∀ w ∈ ws, w.Ok) (h : val d = true) (S : Sto) : f_law_is_paper [mpD m, wsDs ws, d] S = .ok (.bl (isPaper m ws d)) S := by
  refine fnA_ok (S1 := Sto.nil) (by simp [nrfs, mp_nrf, wsDs_nrf, val_nrf h]) ?_ rfl
  refine fn_rt ?_
  unfold m_law_is_paper
  rcases tup_or h with ⟨ds, rfl⟩ | ⟨hn, ht⟩
  · rcases ds with _ | ⟨x, r⟩
    · refine sq_rt (st_ift (S' := Sto.nil) rfl (st_ret rfl))
    · have hx : val x = true := val_tup h (by simp)
      have hne : ∀ S, oEq (.tup (x :: r)) (.tup []) S = .ok (.bl false) S := fun S => by
        show (if shp 60 (.tup (x :: r)) = true ∧ shp 60 (.tup []) = true then R.ok (D.bl (eqv (.tup (x :: r)) (.tup []))) S else .bad) = _
        rw [if_pos ⟨val_60 h, rfl⟩]
        rfl
      rcases str_or hx with ⟨s, rfl⟩ | ⟨hn, ht⟩
      · refine sq_nx (st_iff (S' := Sto.nil) ?_ st_nx) ?_
        · simp only [fnS, env0, sSeq, sSet, sRet, sRetN, sIf, sE, sAsg, sPar, sNx, sPut, R.toS, R.bind, eVar, eC, eOp, eTup, eLst, eLstR, aCons, aNil, eIf, eAn, eOr, eNt, eIsi, toB, tNt, tAn, tOr_, tYs, eCall, eCall0, eB, eMt, eMt0, iSrc, iRg1, iRg2, iEn, iZp, gN, gT, gsCons, gsNil, turnS, List.map_cons, List.map_nil, List.length_cons, List.length_nil, List.replicate, List.cons_append, List.nil_append, List.getElem?_cons_zero, List.getElem?_cons_succ, List.set_cons_zero, List.set_cons_succ, Nat.sub_self, Nat.reduceSub, Nat.reduceAdd, if_true, Bool.false_eq_true, if_false, ite_true, ite_false, List.cons.injEq, and_false, false_and, true_and, and_true, decide_false, decide_true, Bool.not_true, Bool.not_false, Bool.true_and, Bool.false_and, Bool.and_true, Bool.and_false, Bool.or_false, Bool.or_true, Bool.false_or, Bool.true_or, Nat.reduceEqDiff, reduceCtorEq, eSl, pSome, pNone, lcT, wipeE, fits_0, fits_1, fits_2, fits_3, fits_4, eIsi, tyB, rd, show fits 0 = true from rfl, hne, z_t0]
        by_cases hk : s = sKept
        · subst hk
          refine sq_rt (st_ift (S' := Sto.nil) (by simp only [fnS, env0, sSeq, sSet, sRet, sRetN, sIf, sE, sAsg, sPar, sNx, sPut, R.toS, R.bind, eVar, eC, eOp, eTup, eLst, eLstR, aCons, aNil, eIf, eAn, eOr, eNt, eIsi, toB, tNt, tAn, tOr_, tYs, eCall, eCall0, eB, eMt, eMt0, iSrc, iRg1, iRg2, iEn, iZp, gN, gT, gsCons, gsNil, turnS, List.map_cons, List.map_nil, List.length_cons, List.length_nil, List.replicate, List.cons_append, List.nil_append, List.getElem?_cons_zero, List.getElem?_cons_succ, List.set_cons_zero, List.set_cons_succ, Nat.sub_self, Nat.reduceSub, Nat.reduceAdd, if_true, Bool.false_eq_true, if_false, ite_true, ite_false, List.cons.injEq, and_false, false_and, true_and, and_true, decide_false, decide_true, Bool.not_true, Bool.not_false, Bool.true_and, Bool.false_and, Bool.and_true, Bool.and_false, Bool.or_false, Bool.or_true, Bool.false_or, Bool.true_or, Nat.reduceEqDiff, reduceCtorEq, eSl, pSome, pNone, lcT, wipeE, fits_0, fits_1, fits_2, fits_3, fits_4, z_t0, z_eqs, decide_true]; rfl) ?_)
          rcases r with _ | ⟨y, _ | ⟨z, r⟩⟩
          · exact sq_rt (st_ift (S' := Sto.nil) rfl (st_ret rfl))
          · have hy : val y = true := val_tup h (by simp)
            rcases tup_or hy with ⟨ds, rfl⟩ | ⟨hn, ht⟩
            · by_cases hl : ds.length = ws.length
              · refine sq_nx (st_iff (S' := Sto.nil) ?_ st_nx) ?_
                · simp only [fnS, env0, sSeq, sSet, sRet, sRetN, sIf, sE, sAsg, sPar, sNx, sPut, R.toS, R.bind, eVar, eC, eOp, eTup, eLst, eLstR, aCons, aNil, eIf, eAn, eOr, eNt, eIsi, toB, tNt, tAn, tOr_, tYs, eCall, eCall0, eB, eMt, eMt0, iSrc, iRg1, iRg2, iEn, iZp, gN, gT, gsCons, gsNil, turnS, List.map_cons, List.map_nil, List.length_cons, List.length_nil, List.replicate, List.cons_append, List.nil_append, List.getElem?_cons_zero, List.getElem?_cons_succ, List.set_cons_zero, List.set_cons_succ, Nat.sub_self, Nat.reduceSub, Nat.reduceAdd, if_true, Bool.false_eq_true, if_false, ite_true, ite_false, List.cons.injEq, and_false, false_and, true_and, and_true, decide_false, decide_true, Bool.not_true, Bool.not_false, Bool.true_and, Bool.false_and, Bool.and_true, Bool.and_false, Bool.or_false, Bool.or_true, Bool.false_or, Bool.true_or, Nat.reduceEqDiff, reduceCtorEq, eSl, pSome, pNone, lcT, wipeE, fits_0, fits_1, fits_2, fits_3, fits_4, eIsi, tyB, rd, oLen, z_nei, z_t0, z_t1, wsDs, List.length_map, hl, show ((0 + 1 + 1 : Nat) : Int) = 2 from rfl]
                have hp : isPaper m ws (.tup [.str sKept, .tup ds]) = (ws.zip ds).all fun p => rowOk m p.1 p.2 := by
                  rw [← rowsOk_zip]
                  show (if sKept = sKept then decide (ds.length = ws.length) && rowsOk m ws ds else false) = _
                  rw [if_pos rfl, decide_eq_true hl]
                  rfl
                rw [hp]
                have hi : iZp (aCons (eVar 1) (aCons (eOp oIx (eVar 2) (eC (.int 1))) aNil)) (env0 3 5 [mpD m, wsDs ws, .tup [.str sKept, .tup ds]]) Sto.nil = .ok (.st ((ws.zip ds).map fun p => .tup [wsD p.1, p.2])) Sto.nil := by
                  rw [← pairs_zip]
                  rfl
                refine sq_chk (emb := fun p : Ws × D => .tup [wsD p.1, p.2]) (fun ρ S => S = Sto.nil ∧ ∃ r3 r4, ρ = [some (mpD m), some (wsDs ws), some (.tup [.str sKept, .tup ds]), r3, r4]) (fun S => S = Sto.nil) (fun p : Ws × D => rowOk m p.1 p.2) (.bl false) (ws.zip ds) hi ⟨rfl, none, none, rfl⟩ ?_ (fun hb ρ' S' ⟨hS, r3, r4, hρ⟩ => by subst hS hρ; rw [hb]; exact st_ret rfl) (fun hb S' hS => by subst hS; rw [hb])
                rintro ⟨w, d⟩ hp ρ S ⟨rfl, r3, r4, rfl⟩
                have hv : val d = true := val_tup hy (List.of_mem_zip hp).2
                have ho := hw w (List.of_mem_zip hp).1
                dsimp only
                unfold rowOk
                cases hg : w.neg with
                | true =>
                  rw [if_pos rfl]
                  refine ⟨fun e => ⟨_, _, ?_, rfl, some (wsD w), some d, rfl⟩, fun e => ⟨_, ?_, rfl⟩⟩
                  all_goals
                    simp only [turnS, gT, rd, fnS, env0, sSeq, sSet, sRet, sRetN, sIf, sE, sAsg, sPar, sNx, sPut, R.toS, R.bind, eVar, eC, eOp, eTup, eLst, eLstR, aCons, aNil, eIf, eAn, eOr, eNt, eIsi, toB, tNt, tAn, tOr_, tYs, eCall, eCall0, eB, eMt, eMt0, iSrc, iRg1, iRg2, iEn, iZp, gN, gT, gsCons, gsNil, turnS, List.map_cons, List.map_nil, List.length_cons, List.length_nil, List.replicate, List.cons_append, List.nil_append, List.getElem?_cons_zero, List.getElem?_cons_succ, List.set_cons_zero, List.set_cons_succ, Nat.sub_self, Nat.reduceSub, Nat.reduceAdd, if_true, Bool.false_eq_true, if_false, ite_true, ite_false, List.cons.injEq, and_false, false_and, true_and, and_true, decide_false, decide_true, Bool.not_true, Bool.not_false, Bool.true_and, Bool.false_and, Bool.and_true, Bool.and_false, Bool.or_false, Bool.or_true, Bool.false_or, Bool.true_or, Nat.reduceEqDiff, reduceCtorEq, eSl, pSome, pNone, lcT, wipeE, fits_0, fits_1, fits_2, fits_3, fits_4, ws_0, in_ask, in_den, hg, show fits 2 = true from rfl, z_isNN hv, q_keeps hm ho, t_or]
                    rw [show (!isNon d || !kept m w) = !(isNon d && kept m w) by cases isNon d <;> cases kept m w <;> rfl, e]
                    rfl
                | false =>
                  rw [if_neg Bool.false_ne_true]
                  refine ⟨fun e => ⟨_, _, ?_, rfl, some (wsD w), some d, rfl⟩, fun e => ⟨_, ?_, rfl⟩⟩
                  all_goals
                    simp only [turnS, gT, rd, fnS, env0, sSeq, sSet, sRet, sRetN, sIf, sE, sAsg, sPar, sNx, sPut, R.toS, R.bind, eVar, eC, eOp, eTup, eLst, eLstR, aCons, aNil, eIf, eAn, eOr, eNt, eIsi, toB, tNt, tAn, tOr_, tYs, eCall, eCall0, eB, eMt, eMt0, iSrc, iRg1, iRg2, iEn, iZp, gN, gT, gsCons, gsNil, turnS, List.map_cons, List.map_nil, List.length_cons, List.length_nil, List.replicate, List.cons_append, List.nil_append, List.getElem?_cons_zero, List.getElem?_cons_succ, List.set_cons_zero, List.set_cons_succ, Nat.sub_self, Nat.reduceSub, Nat.reduceAdd, if_true, Bool.false_eq_true, if_false, ite_true, ite_false, List.cons.injEq, and_false, false_and, true_and, and_true, decide_false, decide_true, Bool.not_true, Bool.not_false, Bool.true_and, Bool.false_and, Bool.and_true, Bool.and_false, Bool.or_false, Bool.or_true, Bool.false_or, Bool.true_or, Nat.reduceEqDiff, reduceCtorEq, eSl, pSome, pNone, lcT, wipeE, fits_0, fits_1, fits_2, fits_3, fits_4, ws_0, in_ask, in_den, hg, show fits 2 = true from rfl, q_is_shown hm ho hv, e]
              · refine sq_rt (st_ift (S' := Sto.nil) ?_ (st_ret ?_))
                · simp only [fnS, env0, sSeq, sSet, sRet, sRetN, sIf, sE, sAsg, sPar, sNx, sPut, R.toS, R.bind, eVar, eC, eOp, eTup, eLst, eLstR, aCons, aNil, eIf, eAn, eOr, eNt, eIsi, toB, tNt, tAn, tOr_, tYs, eCall, eCall0, eB, eMt, eMt0, iSrc, iRg1, iRg2, iEn, iZp, gN, gT, gsCons, gsNil, turnS, List.map_cons, List.map_nil, List.length_cons, List.length_nil, List.replicate, List.cons_append, List.nil_append, List.getElem?_cons_zero, List.getElem?_cons_succ, List.set_cons_zero, List.set_cons_succ, Nat.sub_self, Nat.reduceSub, Nat.reduceAdd, if_true, Bool.false_eq_true, if_false, ite_true, ite_false, List.cons.injEq, and_false, false_and, true_and, and_true, decide_false, decide_true, Bool.not_true, Bool.not_false, Bool.true_and, Bool.false_and, Bool.and_true, Bool.and_false, Bool.or_false, Bool.or_true, Bool.false_or, Bool.true_or, Nat.reduceEqDiff, reduceCtorEq, eSl, pSome, pNone, lcT, wipeE, fits_0, fits_1, fits_2, fits_3, fits_4, eIsi, tyB, rd, oLen, z_nei, z_t0, z_t1, wsDs, List.length_map, show ¬ ((ds.length : Int) = ws.length) by omega, show ((0 + 1 + 1 : Nat) : Int) = 2 from rfl]
                · show _ = R.ok (D.bl (if sKept = sKept then decide (ds.length = ws.length) && rowsOk m ws ds else false)) _
                  rw [if_pos rfl, decide_eq_false hl]
                  rfl
            · refine sq_rt (st_ift (S' := Sto.nil) ?_ (st_ret ?_))
              · simp only [fnS, env0, sSeq, sSet, sRet, sRetN, sIf, sE, sAsg, sPar, sNx, sPut, R.toS, R.bind, eVar, eC, eOp, eTup, eLst, eLstR, aCons, aNil, eIf, eAn, eOr, eNt, eIsi, toB, tNt, tAn, tOr_, tYs, eCall, eCall0, eB, eMt, eMt0, iSrc, iRg1, iRg2, iEn, iZp, gN, gT, gsCons, gsNil, turnS, List.map_cons, List.map_nil, List.length_cons, List.length_nil, List.replicate, List.cons_append, List.nil_append, List.getElem?_cons_zero, List.getElem?_cons_succ, List.set_cons_zero, List.set_cons_succ, Nat.sub_self, Nat.reduceSub, Nat.reduceAdd, if_true, Bool.false_eq_true, if_false, ite_true, ite_false, List.cons.injEq, and_false, false_and, true_and, and_true, decide_false, decide_true, Bool.not_true, Bool.not_false, Bool.true_and, Bool.false_and, Bool.and_true, Bool.and_false, Bool.or_false, Bool.or_true, Bool.false_or, Bool.true_or, Nat.reduceEqDiff, reduceCtorEq, eSl, pSome, pNone, lcT, wipeE, fits_0, fits_1, fits_2, fits_3, fits_4, eIsi, rd_val (val_nrf hy), ht, z_lenT, z_nei, z_t1, List.length_cons, List.length_nil, show ((0 + 1 + 1 : Nat) : Int) = 2 from rfl]
              · cases y <;> first | rfl | exact absurd rfl (hn _)
          · refine sq_rt (st_ift (S' := Sto.nil) ?_ (st_ret ?_))
            · have : ¬ (((r.length + 1 + 1 + 1 : Nat) : Int) = 2) := by omega
              simp only [fnS, env0, sSeq, sSet, sRet, sRetN, sIf, sE, sAsg, sPar, sNx, sPut, R.toS, R.bind, eVar, eC, eOp, eTup, eLst, eLstR, aCons, aNil, eIf, eAn, eOr, eNt, eIsi, toB, tNt, tAn, tOr_, tYs, eCall, eCall0, eB, eMt, eMt0, iSrc, iRg1, iRg2, iEn, iZp, gN, gT, gsCons, gsNil, turnS, List.map_cons, List.map_nil, List.length_cons, List.length_nil, List.replicate, List.cons_append, List.nil_append, List.getElem?_cons_zero, List.getElem?_cons_succ, List.set_cons_zero, List.set_cons_succ, Nat.sub_self, Nat.reduceSub, Nat.reduceAdd, if_true, Bool.false_eq_true, if_false, ite_true, ite_false, List.cons.injEq, and_false, false_and, true_and, and_true, decide_false, decide_true, Bool.not_true, Bool.not_false, Bool.true_and, Bool.false_and, Bool.and_true, Bool.and_false, Bool.or_false, Bool.or_true, Bool.false_or, Bool.true_or, Nat.reduceEqDiff, reduceCtorEq, eSl, pSome, pNone, lcT, wipeE, fits_0, fits_1, fits_2, fits_3, fits_4, rd, oLen, z_nei, List.length_cons, decide_eq_false this]
            · cases r <;> rfl
        · have hk0 : decide (s = [107, 101, 112, 116]) = false := decide_eq_false hk
          refine sq_nx (st_iff (S' := Sto.nil) (by simp only [fnS, env0, sSeq, sSet, sRet, sRetN, sIf, sE, sAsg, sPar, sNx, sPut, R.toS, R.bind, eVar, eC, eOp, eTup, eLst, eLstR, aCons, aNil, eIf, eAn, eOr, eNt, eIsi, toB, tNt, tAn, tOr_, tYs, eCall, eCall0, eB, eMt, eMt0, iSrc, iRg1, iRg2, iEn, iZp, gN, gT, gsCons, gsNil, turnS, List.map_cons, List.map_nil, List.length_cons, List.length_nil, List.replicate, List.cons_append, List.nil_append, List.getElem?_cons_zero, List.getElem?_cons_succ, List.set_cons_zero, List.set_cons_succ, Nat.sub_self, Nat.reduceSub, Nat.reduceAdd, if_true, Bool.false_eq_true, if_false, ite_true, ite_false, List.cons.injEq, and_false, false_and, true_and, and_true, decide_false, decide_true, Bool.not_true, Bool.not_false, Bool.true_and, Bool.false_and, Bool.and_true, Bool.and_false, Bool.or_false, Bool.or_true, Bool.false_or, Bool.true_or, Nat.reduceEqDiff, reduceCtorEq, eSl, pSome, pNone, lcT, wipeE, fits_0, fits_1, fits_2, fits_3, fits_4, z_t0, z_eqs, hk0]) st_nx) ?_
          by_cases hb : s = sBroken
          · subst hb
            have hb1 : ∀ S, oNe (.str sBroken) (.str [98, 114, 111, 107, 101, 110]) S = .ok (.bl false) S := fun _ => rfl
            rcases r with _ | ⟨y, _ | ⟨z, _ | ⟨z', r⟩⟩⟩
            · exact sq_rt (st_ift (S' := Sto.nil) rfl (st_ret rfl))
            · exact sq_rt (st_ift (S' := Sto.nil) rfl (st_ret rfl))
            · have hy : val y = true := val_tup h (by simp)
              have hz : val z = true := val_tup h (by simp)
              have hp : isPaper m ws (.tup [.str sBroken, y, z]) = isBroken m ws y z := rfl
              rw [hp]
              cases hc : isC y with
              | false =>
                refine sq_rt (st_ift (S' := Sto.nil) ?_ (st_ret ?_))
                · simp only [fnS, env0, sSeq, sSet, sRet, sRetN, sIf, sE, sAsg, sPar, sNx, sPut, R.toS, R.bind, eVar, eC, eOp, eTup, eLst, eLstR, aCons, aNil, eIf, eAn, eOr, eNt, eIsi, toB, tNt, tAn, tOr_, tYs, eCall, eCall0, eB, eMt, eMt0, iSrc, iRg1, iRg2, iEn, iZp, gN, gT, gsCons, gsNil, turnS, List.map_cons, List.map_nil, List.length_cons, List.length_nil, List.replicate, List.cons_append, List.nil_append, List.getElem?_cons_zero, List.getElem?_cons_succ, List.set_cons_zero, List.set_cons_succ, Nat.sub_self, Nat.reduceSub, Nat.reduceAdd, if_true, Bool.false_eq_true, if_false, ite_true, ite_false, List.cons.injEq, and_false, false_and, true_and, and_true, decide_false, decide_true, Bool.not_true, Bool.not_false, Bool.true_and, Bool.false_and, Bool.and_true, Bool.and_false, Bool.or_false, Bool.or_true, Bool.false_or, Bool.true_or, Nat.reduceEqDiff, reduceCtorEq, eSl, pSome, pNone, lcT, wipeE, fits_0, fits_1, fits_2, fits_3, fits_4, z_t0, z_t1, hb1, z_lenT, z_nei, List.length_cons, List.length_nil, show ((0 + 1 + 1 + 1 : Nat) : Int) = 3 from rfl, q_is_count hy, hc]
                · cases y with
                  | int i =>
                    have : ¬ 0 ≤ i := of_decide_eq_false hc
                    rw [isB_int]
                    rw [if_neg this]
                    rfl
                  | _ => rfl
              | true =>
                cases y with
                | int i =>
                  have h0 : 0 ≤ i := of_decide_eq_true hc
                  by_cases hl : i.toNat < ws.length
                  · refine sq_nx (st_iff (S' := Sto.nil) ?_ st_nx) ?_
                    · simp only [fnS, env0, sSeq, sSet, sRet, sRetN, sIf, sE, sAsg, sPar, sNx, sPut, R.toS, R.bind, eVar, eC, eOp, eTup, eLst, eLstR, aCons, aNil, eIf, eAn, eOr, eNt, eIsi, toB, tNt, tAn, tOr_, tYs, eCall, eCall0, eB, eMt, eMt0, iSrc, iRg1, iRg2, iEn, iZp, gN, gT, gsCons, gsNil, turnS, List.map_cons, List.map_nil, List.length_cons, List.length_nil, List.replicate, List.cons_append, List.nil_append, List.getElem?_cons_zero, List.getElem?_cons_succ, List.set_cons_zero, List.set_cons_succ, Nat.sub_self, Nat.reduceSub, Nat.reduceAdd, if_true, Bool.false_eq_true, if_false, ite_true, ite_false, List.cons.injEq, and_false, false_and, true_and, and_true, decide_false, decide_true, Bool.not_true, Bool.not_false, Bool.true_and, Bool.false_and, Bool.and_true, Bool.and_false, Bool.or_false, Bool.or_true, Bool.false_or, Bool.true_or, Nat.reduceEqDiff, reduceCtorEq, eSl, pSome, pNone, lcT, wipeE, fits_0, fits_1, fits_2, fits_3, fits_4, z_t0, z_t1, hb1, z_lenT, z_nei, z_ge, List.length_cons, List.length_nil, show ((0 + 1 + 1 + 1 : Nat) : Int) = 3 from rfl, q_is_count hy, hc, wsDs, List.length_map, show ¬ ((ws.length : Int) ≤ i) by omega]
                    obtain ⟨w, hwi⟩ : ∃ w, ws[i.toNat]? = some w := ⟨ws[i.toNat], List.getElem?_eq_getElem hl⟩
                    have ho : w.Ok := hw w (List.mem_of_getElem? hwi)
                    have hB : isBroken m ws (.int i) z = (!kept m w && hint m w z) := by
                      rw [isB_int]
                      rw [if_pos h0, hwi]
                    have hx : ∀ S, oIx (.tup (ws.map wsD)) (.int i) S = .ok (wsD w) S := fun S => z_ixT h0 (by rw [List.getElem?_map, hwi]; rfl)
                    rw [hB]
                    refine sq_nx (st_set (d := wsD w) (S' := Sto.nil) (by simp only [fnS, env0, sSeq, sSet, sRet, sRetN, sIf, sE, sAsg, sPar, sNx, sPut, R.toS, R.bind, eVar, eC, eOp, eTup, eLst, eLstR, aCons, aNil, eIf, eAn, eOr, eNt, eIsi, toB, tNt, tAn, tOr_, tYs, eCall, eCall0, eB, eMt, eMt0, iSrc, iRg1, iRg2, iEn, iZp, gN, gT, gsCons, gsNil, turnS, List.map_cons, List.map_nil, List.length_cons, List.length_nil, List.replicate, List.cons_append, List.nil_append, List.getElem?_cons_zero, List.getElem?_cons_succ, List.set_cons_zero, List.set_cons_succ, Nat.sub_self, Nat.reduceSub, Nat.reduceAdd, if_true, Bool.false_eq_true, if_false, ite_true, ite_false, List.cons.injEq, and_false, false_and, true_and, and_true, decide_false, decide_true, Bool.not_true, Bool.not_false, Bool.true_and, Bool.false_and, Bool.and_true, Bool.and_false, Bool.or_false, Bool.or_true, Bool.false_or, Bool.true_or, Nat.reduceEqDiff, reduceCtorEq, eSl, pSome, pNone, lcT, wipeE, fits_0, fits_1, fits_2, fits_3, fits_4, z_t1, wsDs, hx])) ?_
                    cases hkp : kept m w with
                    | true => exact sq_rt (st_ift (S' := Sto.nil) (by simp only [fnS, env0, sSeq, sSet, sRet, sRetN, sIf, sE, sAsg, sPar, sNx, sPut, R.toS, R.bind, eVar, eC, eOp, eTup, eLst, eLstR, aCons, aNil, eIf, eAn, eOr, eNt, eIsi, toB, tNt, tAn, tOr_, tYs, eCall, eCall0, eB, eMt, eMt0, iSrc, iRg1, iRg2, iEn, iZp, gN, gT, gsCons, gsNil, turnS, List.map_cons, List.map_nil, List.length_cons, List.length_nil, List.replicate, List.cons_append, List.nil_append, List.getElem?_cons_zero, List.getElem?_cons_succ, List.set_cons_zero, List.set_cons_succ, Nat.sub_self, Nat.reduceSub, Nat.reduceAdd, if_true, Bool.false_eq_true, if_false, ite_true, ite_false, List.cons.injEq, and_false, false_and, true_and, and_true, decide_false, decide_true, Bool.not_true, Bool.not_false, Bool.true_and, Bool.false_and, Bool.and_true, Bool.and_false, Bool.or_false, Bool.or_true, Bool.false_or, Bool.true_or, Nat.reduceEqDiff, reduceCtorEq, eSl, pSome, pNone, lcT, wipeE, fits_0, fits_1, fits_2, fits_3, fits_4, q_keeps hm ho, hkp]) (st_ret rfl))
                    | false =>
                      refine sq_nx (st_iff (S' := Sto.nil) (by simp only [fnS, env0, sSeq, sSet, sRet, sRetN, sIf, sE, sAsg, sPar, sNx, sPut, R.toS, R.bind, eVar, eC, eOp, eTup, eLst, eLstR, aCons, aNil, eIf, eAn, eOr, eNt, eIsi, toB, tNt, tAn, tOr_, tYs, eCall, eCall0, eB, eMt, eMt0, iSrc, iRg1, iRg2, iEn, iZp, gN, gT, gsCons, gsNil, turnS, List.map_cons, List.map_nil, List.length_cons, List.length_nil, List.replicate, List.cons_append, List.nil_append, List.getElem?_cons_zero, List.getElem?_cons_succ, List.set_cons_zero, List.set_cons_succ, Nat.sub_self, Nat.reduceSub, Nat.reduceAdd, if_true, Bool.false_eq_true, if_false, ite_true, ite_false, List.cons.injEq, and_false, false_and, true_and, and_true, decide_false, decide_true, Bool.not_true, Bool.not_false, Bool.true_and, Bool.false_and, Bool.and_true, Bool.and_false, Bool.or_false, Bool.or_true, Bool.false_or, Bool.true_or, Nat.reduceEqDiff, reduceCtorEq, eSl, pSome, pNone, lcT, wipeE, fits_0, fits_1, fits_2, fits_3, fits_4, q_keeps hm ho, hkp]) st_nx) (st_ret ?_)
                      unfold hint
                      cases hg : w.neg with
                      | true => simp only [fnS, env0, sSeq, sSet, sRet, sRetN, sIf, sE, sAsg, sPar, sNx, sPut, R.toS, R.bind, eVar, eC, eOp, eTup, eLst, eLstR, aCons, aNil, eIf, eAn, eOr, eNt, eIsi, toB, tNt, tAn, tOr_, tYs, eCall, eCall0, eB, eMt, eMt0, iSrc, iRg1, iRg2, iEn, iZp, gN, gT, gsCons, gsNil, turnS, List.map_cons, List.map_nil, List.length_cons, List.length_nil, List.replicate, List.cons_append, List.nil_append, List.getElem?_cons_zero, List.getElem?_cons_succ, List.set_cons_zero, List.set_cons_succ, Nat.sub_self, Nat.reduceSub, Nat.reduceAdd, if_true, Bool.false_eq_true, if_false, ite_true, ite_false, List.cons.injEq, and_false, false_and, true_and, and_true, decide_false, decide_true, Bool.not_true, Bool.not_false, Bool.true_and, Bool.false_and, Bool.and_true, Bool.and_false, Bool.or_false, Bool.or_true, Bool.false_or, Bool.true_or, Nat.reduceEqDiff, reduceCtorEq, eSl, pSome, pNone, lcT, wipeE, fits_0, fits_1, fits_2, fits_3, fits_4, ws_0, in_ask, hg, show fits 2 = true from rfl, z_t2, q_is_shown hm ho hz]
                      | false => simp only [fnS, env0, sSeq, sSet, sRet, sRetN, sIf, sE, sAsg, sPar, sNx, sPut, R.toS, R.bind, eVar, eC, eOp, eTup, eLst, eLstR, aCons, aNil, eIf, eAn, eOr, eNt, eIsi, toB, tNt, tAn, tOr_, tYs, eCall, eCall0, eB, eMt, eMt0, iSrc, iRg1, iRg2, iEn, iZp, gN, gT, gsCons, gsNil, turnS, List.map_cons, List.map_nil, List.length_cons, List.length_nil, List.replicate, List.cons_append, List.nil_append, List.getElem?_cons_zero, List.getElem?_cons_succ, List.set_cons_zero, List.set_cons_succ, Nat.sub_self, Nat.reduceSub, Nat.reduceAdd, if_true, Bool.false_eq_true, if_false, ite_true, ite_false, List.cons.injEq, and_false, false_and, true_and, and_true, decide_false, decide_true, Bool.not_true, Bool.not_false, Bool.true_and, Bool.false_and, Bool.and_true, Bool.and_false, Bool.or_false, Bool.or_true, Bool.false_or, Bool.true_or, Nat.reduceEqDiff, reduceCtorEq, eSl, pSome, pNone, lcT, wipeE, fits_0, fits_1, fits_2, fits_3, fits_4, ws_0, in_ask, hg, show fits 2 = true from rfl, z_t2, z_isN hz]
                  · refine sq_rt (st_ift (S' := Sto.nil) ?_ (st_ret ?_))
                    · simp only [fnS, env0, sSeq, sSet, sRet, sRetN, sIf, sE, sAsg, sPar, sNx, sPut, R.toS, R.bind, eVar, eC, eOp, eTup, eLst, eLstR, aCons, aNil, eIf, eAn, eOr, eNt, eIsi, toB, tNt, tAn, tOr_, tYs, eCall, eCall0, eB, eMt, eMt0, iSrc, iRg1, iRg2, iEn, iZp, gN, gT, gsCons, gsNil, turnS, List.map_cons, List.map_nil, List.length_cons, List.length_nil, List.replicate, List.cons_append, List.nil_append, List.getElem?_cons_zero, List.getElem?_cons_succ, List.set_cons_zero, List.set_cons_succ, Nat.sub_self, Nat.reduceSub, Nat.reduceAdd, if_true, Bool.false_eq_true, if_false, ite_true, ite_false, List.cons.injEq, and_false, false_and, true_and, and_true, decide_false, decide_true, Bool.not_true, Bool.not_false, Bool.true_and, Bool.false_and, Bool.and_true, Bool.and_false, Bool.or_false, Bool.or_true, Bool.false_or, Bool.true_or, Nat.reduceEqDiff, reduceCtorEq, eSl, pSome, pNone, lcT, wipeE, fits_0, fits_1, fits_2, fits_3, fits_4, z_t0, z_t1, hb1, z_lenT, z_nei, z_ge, List.length_cons, List.length_nil, show ((0 + 1 + 1 + 1 : Nat) : Int) = 3 from rfl, q_is_count hy, hc, wsDs, List.length_map, show ((ws.length : Int) ≤ i) by omega]
                    · rw [isB_int]
                      rw [if_pos h0, List.getElem?_eq_none (by omega)]
                      rfl
                | _ => cases hc
            · refine sq_rt (st_ift (S' := Sto.nil) ?_ (st_ret ?_))
              · have : ¬ (((r.length + 1 + 1 + 1 + 1 : Nat) : Int) = 3) := by omega
                simp only [fnS, env0, sSeq, sSet, sRet, sRetN, sIf, sE, sAsg, sPar, sNx, sPut, R.toS, R.bind, eVar, eC, eOp, eTup, eLst, eLstR, aCons, aNil, eIf, eAn, eOr, eNt, eIsi, toB, tNt, tAn, tOr_, tYs, eCall, eCall0, eB, eMt, eMt0, iSrc, iRg1, iRg2, iEn, iZp, gN, gT, gsCons, gsNil, turnS, List.map_cons, List.map_nil, List.length_cons, List.length_nil, List.replicate, List.cons_append, List.nil_append, List.getElem?_cons_zero, List.getElem?_cons_succ, List.set_cons_zero, List.set_cons_succ, Nat.sub_self, Nat.reduceSub, Nat.reduceAdd, if_true, Bool.false_eq_true, if_false, ite_true, ite_false, List.cons.injEq, and_false, false_and, true_and, and_true, decide_false, decide_true, Bool.not_true, Bool.not_false, Bool.true_and, Bool.false_and, Bool.and_true, Bool.and_false, Bool.or_false, Bool.or_true, Bool.false_or, Bool.true_or, Nat.reduceEqDiff, reduceCtorEq, eSl, pSome, pNone, lcT, wipeE, fits_0, fits_1, fits_2, fits_3, fits_4, z_t0, hb1, z_lenT, z_nei, List.length_cons, decide_eq_false this]
              · rfl
          · have hb1 : decide (s = [98, 114, 111, 107, 101, 110]) = false := decide_eq_false hb
            refine sq_rt (st_ift (S' := Sto.nil) (by simp only [fnS, env0, sSeq, sSet, sRet, sRetN, sIf, sE, sAsg, sPar, sNx, sPut, R.toS, R.bind, eVar, eC, eOp, eTup, eLst, eLstR, aCons, aNil, eIf, eAn, eOr, eNt, eIsi, toB, tNt, tAn, tOr_, tYs, eCall, eCall0, eB, eMt, eMt0, iSrc, iRg1, iRg2, iEn, iZp, gN, gT, gsCons, gsNil, turnS, List.map_cons, List.map_nil, List.length_cons, List.length_nil, List.replicate, List.cons_append, List.nil_append, List.getElem?_cons_zero, List.getElem?_cons_succ, List.set_cons_zero, List.set_cons_succ, Nat.sub_self, Nat.reduceSub, Nat.reduceAdd, if_true, Bool.false_eq_true, if_false, ite_true, ite_false, List.cons.injEq, and_false, false_and, true_and, and_true, decide_false, decide_true, Bool.not_true, Bool.not_false, Bool.true_and, Bool.false_and, Bool.and_true, Bool.and_false, Bool.or_false, Bool.or_true, Bool.false_or, Bool.true_or, Nat.reduceEqDiff, reduceCtorEq, eSl, pSome, pNone, lcT, wipeE, fits_0, fits_1, fits_2, fits_3, fits_4, z_t0, z_nes, hb1]) (st_ret ?_))
            rcases r with _ | ⟨y, _ | ⟨z, _ | ⟨z', r⟩⟩⟩
            · rfl
            · show _ = R.ok (D.bl (if s = sKept then _ else false)) _
              rw [if_neg hk]; rfl
            · show _ = R.ok (D.bl (if s = sBroken then _ else false)) _
              rw [if_neg hb]; rfl
            · rfl
      · refine sq_rt (st_ift (S' := Sto.nil) ?_ (st_ret ?_))
        · simp only [fnS, env0, sSeq, sSet, sRet, sRetN, sIf, sE, sAsg, sPar, sNx, sPut, R.toS, R.bind, eVar, eC, eOp, eTup, eLst, eLstR, aCons, aNil, eIf, eAn, eOr, eNt, eIsi, toB, tNt, tAn, tOr_, tYs, eCall, eCall0, eB, eMt, eMt0, iSrc, iRg1, iRg2, iEn, iZp, gN, gT, gsCons, gsNil, turnS, List.map_cons, List.map_nil, List.length_cons, List.length_nil, List.replicate, List.cons_append, List.nil_append, List.getElem?_cons_zero, List.getElem?_cons_succ, List.set_cons_zero, List.set_cons_succ, Nat.sub_self, Nat.reduceSub, Nat.reduceAdd, if_true, Bool.false_eq_true, if_false, ite_true, ite_false, List.cons.injEq, and_false, false_and, true_and, and_true, decide_false, decide_true, Bool.not_true, Bool.not_false, Bool.true_and, Bool.false_and, Bool.and_true, Bool.and_false, Bool.or_false, Bool.or_true, Bool.false_or, Bool.true_or, Nat.reduceEqDiff, reduceCtorEq, eSl, pSome, pNone, lcT, wipeE, fits_0, fits_1, fits_2, fits_3, fits_4, eIsi, show rd Sto.nil (.tup (x :: r)) = .tup (x :: r) from rfl, show tyB .tuple (.tup (x :: r)) = some true from rfl, rd_val (val_nrf hx), ht, show fits 0 = true from rfl, hne, z_t0]
        · unfold isPaper
          cases x <;> first | rfl | exact absurd rfl (hn _)
  · refine sq_rt (st_ift (S' := Sto.nil) ?_ (st_ret ?_))
    · simp only [fnS, env0, sSeq, sSet, sRet, sRetN, sIf, sE, sAsg, sPar, sNx, sPut, R.toS, R.bind, eVar, eC, eOp, eTup, eLst, eLstR, aCons, aNil, eIf, eAn, eOr, eNt, eIsi, toB, tNt, tAn, tOr_, tYs, eCall, eCall0, eB, eMt, eMt0, iSrc, iRg1, iRg2, iEn, iZp, gN, gT, gsCons, gsNil, turnS, List.map_cons, List.map_nil, List.length_cons, List.length_nil, List.replicate, List.cons_append, List.nil_append, List.getElem?_cons_zero, List.getElem?_cons_succ, List.set_cons_zero, List.set_cons_succ, Nat.sub_self, Nat.reduceSub, Nat.reduceAdd, if_true, Bool.false_eq_true, if_false, ite_true, ite_false, List.cons.injEq, and_false, false_and, true_and, and_true, decide_false, decide_true, Bool.not_true, Bool.not_false, Bool.true_and, Bool.false_and, Bool.and_true, Bool.and_false, Bool.or_false, Bool.or_true, Bool.false_or, Bool.true_or, Nat.reduceEqDiff, reduceCtorEq, eSl, pSome, pNone, lcT, wipeE, fits_0, fits_1, fits_2, fits_3, fits_4, eIsi, rd_val (val_nrf h), ht]
    · unfold isPaper
      cases d <;> first | rfl | exact absurd rfl (hn _)
end Zk24

namespace Zk24
open PySem PySem.Spec PyProof PyProof.Rows L2 Z
theorem p_names_of (m : Mp) (S : Sto) : f_names_of [mpD m] S = .ok (.tup [nmD false, nmD true]) S := by
  refine fnA_ok (S1 := Sto.nil) (by simp [nrfs, mp_nrf]) ?_ rfl
  rfl
def kids : Tm → List Tm
  | .not t => [t]
  | .op _ ts => ts
  | _ => []
theorem p_inner (t : Tm) (S : Sto) : f_inner [tmD t] S = .ok (.tup ((kids t).map tmD)) S := by
  refine fnA_ok (S1 := Sto.nil) (by simp [nrfs, tm_nrf]) ?_ ?_
  · cases t with
    | zone z => rfl
    | all => rfl
    | none => rfl
    | not t => rfl
    | op c ts =>
      have w1 : ∀ S, oIn (.str (if c then [97, 110, 100] else [111, 114])) (.tup [.str [110, 111, 116], .str [97, 110, 100], .str [111, 114]]) S = .ok (.bl true) S := fun _ => by cases c <;> rfl
      simp only [m_inner, fnS, env0, sSeq, sSet, sRet, sRetN, sIf, sE, sAsg, sPar, sNx, sPut, R.toS, R.bind, eVar, eC, eOp, eTup, eLst, eLstR, aCons, aNil, eIf, eAn, eOr, eNt, eIsi, toB, tNt, tAn, tOr_, tYs, eCall, eCall0, eB, eMt, eMt0, iSrc, iRg1, iRg2, iEn, iZp, gN, gT, gsCons, gsNil, turnS, List.map_cons, List.map_nil, List.length_cons, List.length_nil, List.replicate, List.cons_append, List.nil_append, List.getElem?_cons_zero, List.getElem?_cons_succ, List.set_cons_zero, List.set_cons_succ, Nat.sub_self, Nat.reduceSub, Nat.reduceAdd, if_true, Bool.false_eq_true, if_false, ite_true, ite_false, List.cons.injEq, and_false, false_and, true_and, and_true, decide_false, decide_true, Bool.not_true, Bool.not_false, Bool.true_and, Bool.false_and, Bool.and_true, Bool.and_false, Bool.or_false, Bool.or_true, Bool.false_or, Bool.true_or, Nat.reduceEqDiff, reduceCtorEq, eSl, pSome, pNone, lcT, wipeE, fits_0, fits_1, fits_2, fits_3, fits_4, tmD, z_t0, show fits 3 = true from rfl, w1, z_sl1, tmDs_map, kids]
  · cases t <;> simp [kids, nrf, nrfs, tm_nrf, ← tmDs_map, tms_nrf]
/-! the parts, each with the road to it -/
abbrev Pt := List Int × Tm
mutual
def pre : List Int → Tm → List Pt
  | p, .not t => (p, .not t) :: pre (p ++ [1]) t
  | p, .op c ts => (p, .op c ts) :: pres p 1 ts
  | p, .zone z => [(p, .zone z)]
  | p, .all => [(p, .all)]
  | p, .none => [(p, .none)]
def pres : List Int → Int → List Tm → List Pt
  | _, _, [] => []
  | p, i, t :: ts => pre (p ++ [i]) t ++ pres p (i + 1) ts
end
def num (p : List Int) (i : Int) (ts : List Tm) : List Pt := (numL i ts).map fun q => (p ++ [q.1 + 1], q.2)
theorem pres_num (p : List Int) : ∀ (i : Int) (ts : List Tm), pres p (i + 1) ts = (num p i ts).flatMap fun q => pre q.1 q.2
  | _, [] => rfl
  | i, t :: ts => by
    rw [pres, pres_num p (i + 1) ts]
    rfl
theorem pre_num (p : List Int) (t : Tm) : pre p t = (p, t) :: (num p 0 (kids t)).flatMap fun q => pre q.1 q.2 := by
  cases t with
  | not t => simp [pre, num, numL, kids]
  | op c ts => rw [pre, show (1 : Int) = 0 + 1 from rfl, pres_num]; rfl
  | _ => rfl
def rdD (p : List Int) : D := .tup (p.map .int)
def ptD (q : Pt) : D := .tup [rdD q.1, tmD q.2]
def szP (l : List Pt) : Nat := (l.map fun q => tsz q.2).sum
theorem szP_cons (q : Pt) (l : List Pt) : szP (q :: l) = tsz q.2 + szP l := by simp [szP]
theorem szP_app (l k : List Pt) : szP (l ++ k) = szP l + szP k := by simp [szP]
theorem szP_num (p : List Int) : ∀ (i : Int) (ts : List Tm), szP (num p i ts) = tszs ts
  | _, [] => rfl
  | i, t :: ts => by
    show szP ((p ++ [i + 1], t) :: num p (i + 1) ts) = _
    rw [szP_cons, szP_num p (i + 1) ts, tszs]
theorem tsz_kids (t : Tm) : tsz t = tszs (kids t) + 1 := by
  cases t <;> simp [tsz, kids, tszs]
theorem szP_len : ∀ l : List Pt, l.length ≤ szP l
  | [] => Nat.le_refl _
  | q :: l => by have := szP_len l; have := tsz_pos q.2; rw [szP_cons, List.length_cons]; omega
theorem td_kids {t k : Tm} (h : k ∈ kids t) : td k < td t := by
  cases t with
  | not t => rw [kids, List.mem_singleton] at h; subst h; exact Nat.lt_succ_self _
  | op c ts => have := td_mem h; exact Nat.lt_succ_of_le this
  | _ => cases h
theorem shp_path (p : List Int) (n : Nat) : shp (n + 1) (rdD p) = true := by rw [rdD, shp]; exact shps_map _ fun _ _ => by simp [shp]
theorem pt_shp {q : Pt} (h : td q.2 < 8) : shp 59 (ptD q) = true := by
  simp [ptD, shp, shps, shp_path q.1 57, tm_shp q.2 58 (by omega)]
def pBody : C := (sSeq (sAsg (gT 2 (gsCons (gN 3) (gsCons (gN 4) gsNil))) (eMt0 tyL oPop (eVar 2))) (sSeq (sE (eMt tyL oAppend (eVar 1) (aCons (eTup (aCons (eVar 3) (aCons (eVar 4) aNil))) aNil))) (sE (eMt tyL oExtend (eVar 2) (aCons (eRev (eLc [5, 6] (iEn (aCons (eCall 1 f_inner (aCons (eVar 4) aNil)) aNil)) (gT 2 (gsCons (gN 5) (gsCons (gN 6) gsNil))) tYs (eTup (aCons (eOp oAdd (eVar 3) (eTup (aCons (eOp oAdd (eVar 5) (eC (.int 1))) aNil))) (aCons (eVar 6) aNil))))) aNil)))))
theorem parts_run (r0 : Option D) : ∀ (k : Nat) (todo : List Pt) (acc : List Pt) (r3 r4 : Option D), szP todo < k → (∀ q ∈ todo, td q.2 + q.1.length < 8) → szP todo + acc.length ≤ 1000 → ∃ r3' r4',
    whileS (toB (eOp oNe (eVar 2) (eLst aNil))) pBody k [r0, some (.ref 0), some (.ref 1), r3, r4, none, none] (st2 (acc.map ptD) (todo.reverse.map ptD)) = .nx [r0, some (.ref 0), some (.ref 1), r3', r4', none, none] (st2 ((acc ++ todo.flatMap fun q => pre q.1 q.2).map ptD) []) := by
  intro k
  induction k with
  | zero => intro todo acc r3 r4 h _ _; omega
  | succ k ih =>
    intro todo acc r3 r4 h hd hl
    have hne : ∀ a : List D, oNe (.ref 1) (.lst []) (st2 a (todo.reverse.map ptD)) = .ok (.bl (!(todo.reverse.map ptD).isEmpty)) (st2 a (todo.reverse.map ptD)) := fun a => st2_ne (shps_map _ fun q hq => pt_shp (Nat.lt_of_le_of_lt (Nat.le_add_right _ _) (hd q (List.mem_reverse.mp hq))))
    cases todo with
    | nil => exact ⟨r3, r4, by rw [List.flatMap_nil, List.append_nil]; exact while_f (S1 := st2 (acc.map ptD) []) rfl⟩
    | cons q rest =>
      obtain ⟨p, t⟩ := q
      have hsz := szP_cons (p, t) rest
      have hk := tsz_kids t
      have hln := szP_len rest
      dsimp only at hsz
      obtain ⟨r3', r4', e⟩ := ih (num p 0 (kids t) ++ rest) (acc ++ [(p, t)]) (some (rdD p)) (some (tmD t)) (by rw [szP_app, szP_num]; omega) (fun q hq => by
        rcases List.mem_append.mp hq with h1 | h1
        · unfold num at h1
          obtain ⟨z, hz, rfl⟩ := List.mem_map.mp h1
          have := td_kids (numL_mem hz)
          have := hd (p, t) List.mem_cons_self
          dsimp only at this ⊢
          rw [List.length_append, List.length_singleton]
          omega
        · exact hd q (List.mem_cons_of_mem _ h1)) (by rw [szP_app, szP_num, List.length_append]; simp; omega)
      refine ⟨r3', r4', ?_⟩
      rw [while_t (S1 := st2 (acc.map ptD) (((p, t) :: rest).reverse.map ptD)) (ρ' := [r0, some (.ref 0), some (.ref 1), some (rdD p), some (tmD t), none, none]) (S' := st2 ((acc ++ [(p, t)]).map ptD) ((num p 0 (kids t) ++ rest).reverse.map ptD)) ?_ ?_, e]
      · have e2 : (acc ++ [(p, t)] ++ (num p 0 (kids t) ++ rest).flatMap fun q => pre q.1 q.2) = acc ++ ((p, t) :: rest).flatMap fun q => pre q.1 q.2 := by
          rw [List.flatMap_cons, List.flatMap_append, pre_num]
          simp
        rw [e2]
      · have : (((p, t) :: rest).reverse.map ptD).isEmpty = false := by simp
        simp only [fnS, env0, sSeq, sSet, sRet, sRetN, sIf, sE, sAsg, sPar, sNx, sPut, R.toS, R.bind, eVar, eC, eOp, eTup, eLst, eLstR, aCons, aNil, eIf, eAn, eOr, eNt, eIsi, toB, tNt, tAn, tOr_, tYs, eCall, eCall0, eB, eMt, eMt0, iSrc, iRg1, iRg2, iEn, iZp, gN, gT, gsCons, gsNil, turnS, List.map_cons, List.map_nil, List.length_cons, List.length_nil, List.replicate, List.cons_append, List.nil_append, List.getElem?_cons_zero, List.getElem?_cons_succ, List.set_cons_zero, List.set_cons_succ, Nat.sub_self, Nat.reduceSub, Nat.reduceAdd, if_true, Bool.false_eq_true, if_false, ite_true, ite_false, List.cons.injEq, and_false, false_and, true_and, and_true, decide_false, decide_true, Bool.not_true, Bool.not_false, Bool.true_and, Bool.false_and, Bool.and_true, Bool.and_false, Bool.or_false, Bool.or_true, Bool.false_or, Bool.true_or, Nat.reduceEqDiff, reduceCtorEq, eSl, pSome, pNone, lcT, wipeE, fits_0, fits_1, fits_2, fits_3, fits_4, hne, this]
      · have hpop : ∀ a, oPop (.ref 1) [] (st2 a (((p, t) :: rest).reverse.map ptD)) = .ok (ptD (p, t)) (st2 a (rest.reverse.map ptD)) := fun a => by
          rw [List.reverse_cons, List.map_append, List.map_cons, List.map_nil]
          exact st2_pop
        have happ : ∀ b, oAppend (.ref 0) [.tup [rdD p, tmD t]] (st2 (acc.map ptD) b) = .ok .non (st2 ((acc ++ [(p, t)]).map ptD) b) := fun b => by
          rw [List.map_append, List.map_cons, List.map_nil]
          exact st2_app (by rw [List.length_map]; omega)
        unfold pBody
        refine sq_nx (ρ' := [r0, some (.ref 0), some (.ref 1), some (rdD p), some (tmD t), none, none]) (S' := st2 (acc.map ptD) (rest.reverse.map ptD)) ?_ ?_
        · simp only [fnS, env0, sSeq, sSet, sRet, sRetN, sIf, sE, sAsg, sPar, sNx, sPut, R.toS, R.bind, eVar, eC, eOp, eTup, eLst, eLstR, aCons, aNil, eIf, eAn, eOr, eNt, eIsi, toB, tNt, tAn, tOr_, tYs, eCall, eCall0, eB, eMt, eMt0, iSrc, iRg1, iRg2, iEn, iZp, gN, gT, gsCons, gsNil, turnS, List.map_cons, List.map_nil, List.length_cons, List.length_nil, List.replicate, List.cons_append, List.nil_append, List.getElem?_cons_zero, List.getElem?_cons_succ, List.set_cons_zero, List.set_cons_succ, Nat.sub_self, Nat.reduceSub, Nat.reduceAdd, if_true, Bool.false_eq_true, if_false, ite_true, ite_false, List.cons.injEq, and_false, false_and, true_and, and_true, decide_false, decide_true, Bool.not_true, Bool.not_false, Bool.true_and, Bool.false_and, Bool.and_true, Bool.and_false, Bool.or_false, Bool.or_true, Bool.false_or, Bool.true_or, Nat.reduceEqDiff, reduceCtorEq, eSl, pSome, pNone, lcT, wipeE, fits_0, fits_1, fits_2, fits_3, fits_4, show ∀ a b, tyL (.ref 1) (st2 a b) = true from fun _ _ => rfl, hpop, ptD, gT, rd]
        refine sq_nx (ρ' := [r0, some (.ref 0), some (.ref 1), some (rdD p), some (tmD t), none, none]) (S' := st2 ((acc ++ [(p, t)]).map ptD) (rest.reverse.map ptD)) ?_ ?_
        · simp only [fnS, env0, sSeq, sSet, sRet, sRetN, sIf, sE, sAsg, sPar, sNx, sPut, R.toS, R.bind, eVar, eC, eOp, eTup, eLst, eLstR, aCons, aNil, eIf, eAn, eOr, eNt, eIsi, toB, tNt, tAn, tOr_, tYs, eCall, eCall0, eB, eMt, eMt0, iSrc, iRg1, iRg2, iEn, iZp, gN, gT, gsCons, gsNil, turnS, List.map_cons, List.map_nil, List.length_cons, List.length_nil, List.replicate, List.cons_append, List.nil_append, List.getElem?_cons_zero, List.getElem?_cons_succ, List.set_cons_zero, List.set_cons_succ, Nat.sub_self, Nat.reduceSub, Nat.reduceAdd, if_true, Bool.false_eq_true, if_false, ite_true, ite_false, List.cons.injEq, and_false, false_and, true_and, and_true, decide_false, decide_true, Bool.not_true, Bool.not_false, Bool.true_and, Bool.false_and, Bool.and_true, Bool.and_false, Bool.or_false, Bool.or_true, Bool.false_or, Bool.true_or, Nat.reduceEqDiff, reduceCtorEq, eSl, pSome, pNone, lcT, wipeE, fits_0, fits_1, fits_2, fits_3, fits_4, show ∀ a b, tyL (.ref 0) (st2 a b) = true from fun _ _ => rfl, happ, show fits 2 = true from rfl]
        refine st_e (d := .non) ?_
        have hpl : ∀ j, (p.map D.int).length + [D.int j].length ≤ 16777216 := fun _ => by
          have := hd (p, t) List.mem_cons_self
          rw [List.length_map, List.length_singleton]
          dsimp only at this
          omega
        have hc : eLc [5, 6] (iEn (aCons (eCall 1 f_inner (aCons (eVar 4) aNil)) aNil)) (gT 2 (gsCons (gN 5) (gsCons (gN 6) gsNil))) tYs (eTup (aCons (eOp oAdd (eVar 3) (eTup (aCons (eOp oAdd (eVar 5) (eC (.int 1))) aNil))) (aCons (eVar 6) aNil))) [r0, some (.ref 0), some (.ref 1), some (rdD p), some (tmD t), none, none] (st2 ((acc ++ [(p, t)]).map ptD) (rest.reverse.map ptD)) = .ok (.lst ((num p 0 (kids t)).map ptD)) (st2 ((acc ++ [(p, t)]).map ptD) (rest.reverse.map ptD)) := by
          unfold num
          rw [List.map_map]
          refine eLc_m (emb := fun q : Int × Tm => .tup [.int q.1, tmD q.2]) (xs := numL 0 (kids t)) ?_ (fun q hq => ?_) ?_
          · simp only [fnS, env0, sSeq, sSet, sRet, sRetN, sIf, sE, sAsg, sPar, sNx, sPut, R.toS, R.bind, eVar, eC, eOp, eTup, eLst, eLstR, aCons, aNil, eIf, eAn, eOr, eNt, eIsi, toB, tNt, tAn, tOr_, tYs, eCall, eCall0, eB, eMt, eMt0, iSrc, iRg1, iRg2, iEn, iZp, gN, gT, gsCons, gsNil, turnS, List.map_cons, List.map_nil, List.length_cons, List.length_nil, List.replicate, List.cons_append, List.nil_append, List.getElem?_cons_zero, List.getElem?_cons_succ, List.set_cons_zero, List.set_cons_succ, Nat.sub_self, Nat.reduceSub, Nat.reduceAdd, if_true, Bool.false_eq_true, if_false, ite_true, ite_false, List.cons.injEq, and_false, false_and, true_and, and_true, decide_false, decide_true, Bool.not_true, Bool.not_false, Bool.true_and, Bool.false_and, Bool.and_true, Bool.and_false, Bool.or_false, Bool.or_true, Bool.false_or, Bool.true_or, Nat.reduceEqDiff, reduceCtorEq, eSl, pSome, pNone, lcT, wipeE, fits_0, fits_1, fits_2, fits_3, fits_4, p_inner, srcOf, lkE, numb_map]
          · simp only [fnS, env0, sSeq, sSet, sRet, sRetN, sIf, sE, sAsg, sPar, sNx, sPut, R.toS, R.bind, eVar, eC, eOp, eTup, eLst, eLstR, aCons, aNil, eIf, eAn, eOr, eNt, eIsi, toB, tNt, tAn, tOr_, tYs, eCall, eCall0, eB, eMt, eMt0, iSrc, iRg1, iRg2, iEn, iZp, gN, gT, gsCons, gsNil, turnS, List.map_cons, List.map_nil, List.length_cons, List.length_nil, List.replicate, List.cons_append, List.nil_append, List.getElem?_cons_zero, List.getElem?_cons_succ, List.set_cons_zero, List.set_cons_succ, Nat.sub_self, Nat.reduceSub, Nat.reduceAdd, if_true, Bool.false_eq_true, if_false, ite_true, ite_false, List.cons.injEq, and_false, false_and, true_and, and_true, decide_false, decide_true, Bool.not_true, Bool.not_false, Bool.true_and, Bool.false_and, Bool.and_true, Bool.and_false, Bool.or_false, Bool.or_true, Bool.false_or, Bool.true_or, Nat.reduceEqDiff, reduceCtorEq, eSl, pSome, pNone, lcT, wipeE, fits_0, fits_1, fits_2, fits_3, fits_4, gT, rd, rdD, Function.comp, ptD, z_addI, z_addT (hpl _), List.map_append]
          · rw [numL_len]; have := tszs_len (kids t); omega
        revert hc
        generalize eLc _ _ _ _ _ = E
        intro hc
        have hext : oExtend (.ref 1) [.lst ((num p 0 (kids t)).map ptD).reverse] (st2 ((acc ++ [(p, t)]).map ptD) (rest.reverse.map ptD)) = .ok .non (st2 ((acc ++ [(p, t)]).map ptD) ((num p 0 (kids t) ++ rest).reverse.map ptD)) := by
          rw [List.reverse_append, List.map_append (l₁ := rest.reverse), ← List.map_reverse]
          refine st2_ext ?_
          have := szP_num p 0 (kids t)
          have := szP_len (num p 0 (kids t))
          simp only [List.length_map, List.length_reverse]
          omega
        simp only [fnS, env0, sSeq, sSet, sRet, sRetN, sIf, sE, sAsg, sPar, sNx, sPut, R.toS, R.bind, eVar, eC, eOp, eTup, eLst, eLstR, aCons, aNil, eIf, eAn, eOr, eNt, eIsi, toB, tNt, tAn, tOr_, tYs, eCall, eCall0, eB, eMt, eMt0, iSrc, iRg1, iRg2, iEn, iZp, gN, gT, gsCons, gsNil, turnS, List.map_cons, List.map_nil, List.length_cons, List.length_nil, List.replicate, List.cons_append, List.nil_append, List.getElem?_cons_zero, List.getElem?_cons_succ, List.set_cons_zero, List.set_cons_succ, Nat.sub_self, Nat.reduceSub, Nat.reduceAdd, if_true, Bool.false_eq_true, if_false, ite_true, ite_false, List.cons.injEq, and_false, false_and, true_and, and_true, decide_false, decide_true, Bool.not_true, Bool.not_false, Bool.true_and, Bool.false_and, Bool.and_true, Bool.and_false, Bool.or_false, Bool.or_true, Bool.false_or, Bool.true_or, Nat.reduceEqDiff, reduceCtorEq, eSl, pSome, pNone, lcT, wipeE, fits_0, fits_1, fits_2, fits_3, fits_4, eRev, hc, rd, hext, show ∀ a b, tyL (.ref 1) (st2 a b) = true from fun _ _ => rfl]
def ptsD (l : List Pt) : D := .tup (l.map ptD)
theorem pt_nrf (q : Pt) : nrf (ptD q) = true := by
  simp [ptD, nrf, nrfs, tm_nrf, rdD, nrfs_map (f := D.int) q.1 fun _ _ => rfl]
theorem p_parts_of {t : Tm} (ht : td t < 8) (hz : tsz t ≤ 900) (S : Sto) : f_parts_of [tmD t] S = .ok (ptsD (pre [] t)) S := by
  obtain ⟨r3, r4, e⟩ := parts_run (some (tmD t)) 1000 [([], t)] [] none none (by simp [szP]; omega) (by simpa using ht) (by simp [szP]; omega)
  refine fnA_ok (S1 := st2 ((pre [] t).map ptD) []) (by simp [nrfs, tm_nrf]) ?_ (by simp [ptsD, nrf]; exact nrfs_map _ fun q _ => pt_nrf q)
  refine fn_rt ?_
  refine sq_nx (ρ' := [some (tmD t), some (.ref 0), some (.ref 1), none, none, none, none]) (S' := st2 [] [ptD ([], t)]) rfl ?_
  refine sq_nx (ρ' := [some (tmD t), some (.ref 0), some (.ref 1), r3, r4, none, none]) (S' := st2 ((pre [] t).map ptD) []) ?_ (st_ret rfl)
  simp only [List.reverse_cons, List.reverse_nil, List.nil_append, List.map_cons, List.map_nil, List.flatMap_cons, List.flatMap_nil, List.append_nil] at e
  exact e
theorem p_truth_of (t : Tm) (a b : Bool) (S : Sto) : f_truth_of [tmD t, .lst (((kids t).map (ev a b)).reverse.map .bl), memD a b] S = .ok (.bl (ev a b t)) S := by
  have hn : nrfs [tmD t, .lst (((kids t).map (ev a b)).reverse.map .bl), memD a b] = true := by
    have h1 : nrfs (((kids t).map (ev a b)).reverse.map D.bl) = true := nrfs_map _ fun _ _ => rfl
    have h2 : nrf (memD a b) = true := by cases a <;> cases b <;> rfl
    simp only [nrfs, nrf, tm_nrf, h1, h2, Bool.and_true]
  refine fnA_ok (S1 := Sto.nil) hn ?_ rfl
  cases t with
  | zone z => cases z <;> cases a <;> cases b <;> rfl
  | all => rfl
  | none => rfl
  | not t => rfl
  | op c ts =>
    have w2 : ∀ S, oEq (.str (if c then [97, 110, 100] else [111, 114])) (.str [122, 111, 110, 101]) S = .ok (.bl false) S := fun _ => by cases c <;> rfl
    have w3 : ∀ S, oEq (.str (if c then [97, 110, 100] else [111, 114])) (.str [110, 111, 116]) S = .ok (.bl false) S := fun _ => by cases c <;> rfl
    have w4 : ∀ S, oEq (.str (if c then [97, 110, 100] else [111, 114])) (.str [97, 110, 100]) S = .ok (.bl c) S := fun _ => by cases c <;> rfl
    have w5 : ∀ S, oEq (.str (if c then [97, 110, 100] else [111, 114])) (.str [111, 114]) S = .ok (.bl (!c)) S := fun _ => by cases c <;> rfl
    simp only [m_truth_of, fnS, env0, sSeq, sSet, sRet, sRetN, sIf, sE, sAsg, sPar, sNx, sPut, R.toS, R.bind, eVar, eC, eOp, eTup, eLst, eLstR, aCons, aNil, eIf, eAn, eOr, eNt, eIsi, toB, tNt, tAn, tOr_, tYs, eCall, eCall0, eB, eMt, eMt0, iSrc, iRg1, iRg2, iEn, iZp, gN, gT, gsCons, gsNil, turnS, List.map_cons, List.map_nil, List.length_cons, List.length_nil, List.replicate, List.cons_append, List.nil_append, List.getElem?_cons_zero, List.getElem?_cons_succ, List.set_cons_zero, List.set_cons_succ, Nat.sub_self, Nat.reduceSub, Nat.reduceAdd, if_true, Bool.false_eq_true, if_false, ite_true, ite_false, List.cons.injEq, and_false, false_and, true_and, and_true, decide_false, decide_true, Bool.not_true, Bool.not_false, Bool.true_and, Bool.false_and, Bool.and_true, Bool.and_false, Bool.or_false, Bool.or_true, Bool.false_or, Bool.true_or, Nat.reduceEqDiff, reduceCtorEq, eSl, pSome, pNone, lcT, wipeE, fits_0, fits_1, fits_2, fits_3, fits_4, tmD, z_t0, w2, w3, w4, w5]
    cases c with
    | true => simp only [fnS, env0, sSeq, sSet, sRet, sRetN, sIf, sE, sAsg, sPar, sNx, sPut, R.toS, R.bind, eVar, eC, eOp, eTup, eLst, eLstR, aCons, aNil, eIf, eAn, eOr, eNt, eIsi, toB, tNt, tAn, tOr_, tYs, eCall, eCall0, eB, eMt, eMt0, iSrc, iRg1, iRg2, iEn, iZp, gN, gT, gsCons, gsNil, turnS, List.map_cons, List.map_nil, List.length_cons, List.length_nil, List.replicate, List.cons_append, List.nil_append, List.getElem?_cons_zero, List.getElem?_cons_succ, List.set_cons_zero, List.set_cons_succ, Nat.sub_self, Nat.reduceSub, Nat.reduceAdd, if_true, Bool.false_eq_true, if_false, ite_true, ite_false, List.cons.injEq, and_false, false_and, true_and, and_true, decide_false, decide_true, Bool.not_true, Bool.not_false, Bool.true_and, Bool.false_and, Bool.and_true, Bool.and_false, Bool.or_false, Bool.or_true, Bool.false_or, Bool.true_or, Nat.reduceEqDiff, reduceCtorEq, eSl, pSome, pNone, lcT, wipeE, fits_0, fits_1, fits_2, fits_3, fits_4, z_all, kids, ev, evA_map, List.all_reverse]
    | false => simp only [fnS, env0, sSeq, sSet, sRet, sRetN, sIf, sE, sAsg, sPar, sNx, sPut, R.toS, R.bind, eVar, eC, eOp, eTup, eLst, eLstR, aCons, aNil, eIf, eAn, eOr, eNt, eIsi, toB, tNt, tAn, tOr_, tYs, eCall, eCall0, eB, eMt, eMt0, iSrc, iRg1, iRg2, iEn, iZp, gN, gT, gsCons, gsNil, turnS, List.map_cons, List.map_nil, List.length_cons, List.length_nil, List.replicate, List.cons_append, List.nil_append, List.getElem?_cons_zero, List.getElem?_cons_succ, List.set_cons_zero, List.set_cons_succ, Nat.sub_self, Nat.reduceSub, Nat.reduceAdd, if_true, Bool.false_eq_true, if_false, ite_true, ite_false, List.cons.injEq, and_false, false_and, true_and, and_true, decide_false, decide_true, Bool.not_true, Bool.not_false, Bool.true_and, Bool.false_and, Bool.and_true, Bool.and_false, Bool.or_false, Bool.or_true, Bool.false_or, Bool.true_or, Nat.reduceEqDiff, reduceCtorEq, eSl, pSome, pNone, lcT, wipeE, fits_0, fits_1, fits_2, fits_3, fits_4, z_t0, show ∀ S, oEq (.str [111, 114]) (.str [111, 114]) S = .ok (.bl true) S from fun _ => rfl, z_any, kids, ev, evO_map, List.any_reverse]
def tBody : C := (sSeq (sSet 5 (eB oLen (aCons (eCall 1 f_inner (aCons (eVar 4) aNil)) aNil))) (sSeq (sSet 6 (eSl (eVar 2) (pSome (eOp oSub (eB oLen (aCons (eVar 2) aNil)) (eVar 5))) pNone)) (sSet 2 (eOp oAdd (eSl (eVar 2) pNone (pSome (eOp oSub (eB oLen (aCons (eVar 2) aNil)) (eVar 5)))) (eLst (aCons (eCall 3 f_truth_of (aCons (eVar 4) (aCons (eVar 6) (aCons (eVar 1) aNil)))) aNil))))))
theorem p_turn (t0 : Option D) (p : List Int) (t : Tm) (a b : Bool) (A : List Bool) (r3 r4 r5 r6 : Option D) (h : A.length ≤ 10000) : ∃ r3' r4' r5' r6', turnS (gT 2 (gsCons (gN 3) (gsCons (gN 4) gsNil))) tBody (ptD (p, t)) [t0, some (memD a b), some (.lst ((A ++ ((kids t).map (ev a b)).reverse).map .bl)), r3, r4, r5, r6] Sto.nil = .nx [t0, some (memD a b), some (.lst ((A ++ [ev a b t]).map .bl)), r3', r4', r5', r6'] Sto.nil := by
  refine ⟨some (rdD p), some (tmD t), some (.int ((kids t).map tmD).length), some (.lst (((kids t).map (ev a b)).reverse.map .bl)), ?_⟩
  show tBody [t0, some (memD a b), some (.lst ((A ++ ((kids t).map (ev a b)).reverse).map .bl)), some (rdD p), some (tmD t), r5, r6] Sto.nil = _
  have hl : (((A ++ ((kids t).map (ev a b)).reverse).map D.bl).length : Int) - ((kids t).map tmD).length = (A.length : Int) := by
    simp only [List.length_map, List.length_append, List.length_reverse]
    omega
  have h0 : A.length ≤ ((A ++ ((kids t).map (ev a b)).reverse).map D.bl).length := by simp
  have e1 : ((A ++ ((kids t).map (ev a b)).reverse).map D.bl).drop A.length = ((kids t).map (ev a b)).reverse.map .bl := by
    rw [List.map_append, List.drop_left' (by simp)]
  have e2 : ((A ++ ((kids t).map (ev a b)).reverse).map D.bl).take A.length = A.map .bl := by
    rw [List.map_append, List.take_left' (by simp)]
  refine sq_nx (st_set (d := .int ((kids t).map tmD).length) (S' := Sto.nil) (by simp only [fnS, env0, sSeq, sSet, sRet, sRetN, sIf, sE, sAsg, sPar, sNx, sPut, R.toS, R.bind, eVar, eC, eOp, eTup, eLst, eLstR, aCons, aNil, eIf, eAn, eOr, eNt, eIsi, toB, tNt, tAn, tOr_, tYs, eCall, eCall0, eB, eMt, eMt0, iSrc, iRg1, iRg2, iEn, iZp, gN, gT, gsCons, gsNil, turnS, List.map_cons, List.map_nil, List.length_cons, List.length_nil, List.replicate, List.cons_append, List.nil_append, List.getElem?_cons_zero, List.getElem?_cons_succ, List.set_cons_zero, List.set_cons_succ, Nat.sub_self, Nat.reduceSub, Nat.reduceAdd, if_true, Bool.false_eq_true, if_false, ite_true, ite_false, List.cons.injEq, and_false, false_and, true_and, and_true, decide_false, decide_true, Bool.not_true, Bool.not_false, Bool.true_and, Bool.false_and, Bool.and_true, Bool.and_false, Bool.or_false, Bool.or_true, Bool.false_or, Bool.true_or, Nat.reduceEqDiff, reduceCtorEq, eSl, pSome, pNone, lcT, wipeE, fits_0, fits_1, fits_2, fits_3, fits_4, p_inner, z_lenT])) ?_
  refine sq_nx (st_set (d := .lst (((kids t).map (ev a b)).reverse.map .bl)) (S' := Sto.nil) ?_) ?_
  · have := z_slF (S := Sto.nil) h0
    rw [e1] at this
    simp only [fnS, env0, sSeq, sSet, sRet, sRetN, sIf, sE, sAsg, sPar, sNx, sPut, R.toS, R.bind, eVar, eC, eOp, eTup, eLst, eLstR, aCons, aNil, eIf, eAn, eOr, eNt, eIsi, toB, tNt, tAn, tOr_, tYs, eCall, eCall0, eB, eMt, eMt0, iSrc, iRg1, iRg2, iEn, iZp, gN, gT, gsCons, gsNil, turnS, List.map_cons, List.map_nil, List.length_cons, List.length_nil, List.replicate, List.cons_append, List.nil_append, List.getElem?_cons_zero, List.getElem?_cons_succ, List.set_cons_zero, List.set_cons_succ, Nat.sub_self, Nat.reduceSub, Nat.reduceAdd, if_true, Bool.false_eq_true, if_false, ite_true, ite_false, List.cons.injEq, and_false, false_and, true_and, and_true, decide_false, decide_true, Bool.not_true, Bool.not_false, Bool.true_and, Bool.false_and, Bool.and_true, Bool.and_false, Bool.or_false, Bool.or_true, Bool.false_or, Bool.true_or, Nat.reduceEqDiff, reduceCtorEq, eSl, pSome, pNone, lcT, wipeE, fits_0, fits_1, fits_2, fits_3, fits_4, z_lenL, z_subI, hl]
    exact this
  · refine st_set (d := .lst ((A ++ [ev a b t]).map .bl)) (S' := Sto.nil) ?_
    have := z_slT (S := Sto.nil) h0
    rw [e2] at this
    simp only [fnS, env0, sSeq, sSet, sRet, sRetN, sIf, sE, sAsg, sPar, sNx, sPut, R.toS, R.bind, eVar, eC, eOp, eTup, eLst, eLstR, aCons, aNil, eIf, eAn, eOr, eNt, eIsi, toB, tNt, tAn, tOr_, tYs, eCall, eCall0, eB, eMt, eMt0, iSrc, iRg1, iRg2, iEn, iZp, gN, gT, gsCons, gsNil, turnS, List.map_cons, List.map_nil, List.length_cons, List.length_nil, List.replicate, List.cons_append, List.nil_append, List.getElem?_cons_zero, List.getElem?_cons_succ, List.set_cons_zero, List.set_cons_succ, Nat.sub_self, Nat.reduceSub, Nat.reduceAdd, if_true, Bool.false_eq_true, if_false, ite_true, ite_false, List.cons.injEq, and_false, false_and, true_and, and_true, decide_false, decide_true, Bool.not_true, Bool.not_false, Bool.true_and, Bool.false_and, Bool.and_true, Bool.and_false, Bool.or_false, Bool.or_true, Bool.false_or, Bool.true_or, Nat.reduceEqDiff, reduceCtorEq, eSl, pSome, pNone, lcT, wipeE, fits_0, fits_1, fits_2, fits_3, fits_4, z_lenL, z_subI, hl, this, p_truth_of]
    rw [z_addL (by simp; omega), List.map_append]
    rfl
def tRun (t0 : Option D) (a b : Bool) (st : List Bool) (x : Option D × Option D × Option D × Option D) (ds : List D) : RS := forS (turnS (gT 2 (gsCons (gN 3) (gsCons (gN 4) gsNil))) tBody) ds [t0, some (memD a b), some (.lst (st.map .bl)), x.1, x.2.1, x.2.2.1, x.2.2.2] Sto.nil
theorem run_L (t0 : Option D) (a b : Bool) : ∀ (L : List Pt), (∀ q ∈ L, ∀ (st : List Bool) (more : List D) x, st.length + tsz q.2 ≤ 10000 → ∃ y, tRun t0 a b st x ((pre q.1 q.2).reverse.map ptD ++ more) = tRun t0 a b (st ++ [ev a b q.2]) y more) → ∀ (st : List Bool) (more : List D) x, st.length + szP L ≤ 10000 → ∃ y, tRun t0 a b st x ((L.flatMap fun q => pre q.1 q.2).reverse.map ptD ++ more) = tRun t0 a b (st ++ (L.map fun q => ev a b q.2).reverse) y more
  | [], _, st, more, x, _ => ⟨x, by simp⟩
  | q :: L, ih, st, more, x, h => by
    have hz := szP_cons q L
    have hl := szP_len L
    have hp := tsz_pos q.2
    obtain ⟨y, e⟩ := run_L t0 a b L (fun q hq => ih q (List.mem_cons_of_mem _ hq)) st ((pre q.1 q.2).reverse.map ptD ++ more) x (by omega)
    obtain ⟨z, e2⟩ := ih q List.mem_cons_self (st ++ (L.map fun q => ev a b q.2).reverse) more y (by simp; omega)
    refine ⟨z, ?_⟩
    rw [List.flatMap_cons, List.reverse_append, List.map_append, List.append_assoc, e, e2, List.map_cons, List.reverse_cons, List.append_assoc]
theorem ev_num (a b : Bool) (p : List Int) : ∀ (i : Int) (ts : List Tm), ((num p i ts).map fun q => ev a b q.2) = ts.map (ev a b)
  | _, [] => rfl
  | i, t :: ts => by
    rw [List.map_cons, ← ev_num a b p (i + 1) ts]
    rfl
theorem run_t (t0 : Option D) (a b : Bool) : ∀ (n : Nat) (t : Tm) (p : List Int), tsz t ≤ n → ∀ (st : List Bool) (more : List D) x, st.length + tsz t ≤ 10000 → ∃ y, tRun t0 a b st x ((pre p t).reverse.map ptD ++ more) = tRun t0 a b (st ++ [ev a b t]) y more := by
  intro n
  induction n with
  | zero => intro t p h; have := tsz_pos t; omega
  | succ n ih =>
    intro t p hn st more x h
    have hk := tsz_kids t
    have hs := szP_num p 0 (kids t)
    obtain ⟨y, e⟩ := run_L t0 a b (num p 0 (kids t)) (fun q hq => by
      have hq2 : q.2 ∈ kids t := by
        obtain ⟨z, hz, rfl⟩ := List.mem_map.mp hq
        exact numL_mem hz
      exact ih q.2 q.1 (by have := tsz_mem hq2; omega)) st (ptD (p, t) :: more) x (by omega)
    rw [ev_num] at e
    obtain ⟨r3, r4, r5, r6, e2⟩ := p_turn t0 p t a b st y.1 y.2.1 y.2.2.1 y.2.2.2 (by omega)
    refine ⟨(r3, r4, r5, r6), ?_⟩
    rw [pre_num, List.reverse_cons, List.map_append, List.append_assoc]
    refine e.trans ?_
    conv => lhs; unfold tRun forS
    rw [e2]
    rfl
theorem p_is_in_by {t : Tm} (ht : td t < 8) (hz : tsz t ≤ 900) (a b : Bool) (S : Sto) : f_is_in_by [tmD t, memD a b] S = .ok (.bl (ev a b t)) S := by
  obtain ⟨y, e⟩ := run_t (some (tmD t)) a b (tsz t) t [] (Nat.le_refl _) [] [] (none, none, none, none) (by simp; omega)
  refine fnA_ok (S1 := Sto.nil) (by cases a <;> cases b <;> simp [nrfs, tm_nrf, memD, nrf, nmD]) ?_ rfl
  refine fn_rt ?_
  refine sq_nx (ρ' := [some (tmD t), some (memD a b), some (.lst []), none, none, none, none]) (S' := Sto.nil) rfl ?_
  refine sq_nx (ρ' := [some (tmD t), some (memD a b), some (.lst [.bl (ev a b t)]), y.1, y.2.1, y.2.2.1, y.2.2.2]) (S' := Sto.nil) (st_for (ds := (pre [] t).reverse.map ptD) ?_ ?_) (st_ret ?_)
  · simp only [fnS, env0, sSeq, sSet, sRet, sRetN, sIf, sE, sAsg, sPar, sNx, sPut, R.toS, R.bind, eVar, eC, eOp, eTup, eLst, eLstR, aCons, aNil, eIf, eAn, eOr, eNt, eIsi, toB, tNt, tAn, tOr_, tYs, eCall, eCall0, eB, eMt, eMt0, iSrc, iRg1, iRg2, iEn, iZp, gN, gT, gsCons, gsNil, turnS, List.map_cons, List.map_nil, List.length_cons, List.length_nil, List.replicate, List.cons_append, List.nil_append, List.getElem?_cons_zero, List.getElem?_cons_succ, List.set_cons_zero, List.set_cons_succ, Nat.sub_self, Nat.reduceSub, Nat.reduceAdd, if_true, Bool.false_eq_true, if_false, ite_true, ite_false, List.cons.injEq, and_false, false_and, true_and, and_true, decide_false, decide_true, Bool.not_true, Bool.not_false, Bool.true_and, Bool.false_and, Bool.and_true, Bool.and_false, Bool.or_false, Bool.or_true, Bool.false_or, Bool.true_or, Nat.reduceEqDiff, reduceCtorEq, eSl, pSome, pNone, lcT, wipeE, fits_0, fits_1, fits_2, fits_3, fits_4, p_parts_of ht hz, eRev, ptsD, rd, srcOf, List.map_reverse]
  · rw [List.append_nil] at e
    exact e
  · rfl
end Zk24

namespace Zk24
open PySem PySem.Spec PyProof PyProof.Rows L2 Z
/-! the names in a term -/
def few (l : List Bool) : Prop := l = [] ∨ l = [false] ∨ l = [true] ∨ l = [false, true] ∨ l = [true, false]
def trD (l : List Bool) : List D := l.map fun _ => .bl true
theorem few_put {l : List Bool} (h : few l) (z : Bool) : ∃ l', few l' ∧ dcPut (l.map nmD, trD l) (nmD z) (.bl true) = some (l'.map nmD, trD l') := by
  unfold few at h
  rcases h with rfl | rfl | rfl | rfl | rfl <;> cases z
  · exact ⟨[false], by simp [few], rfl⟩
  · exact ⟨[true], by simp [few], rfl⟩
  · exact ⟨[false], by simp [few], rfl⟩
  · exact ⟨[false, true], by simp [few], rfl⟩
  · exact ⟨[true, false], by simp [few], rfl⟩
  · exact ⟨[true], by simp [few], rfl⟩
  · exact ⟨[false, true], by simp [few], rfl⟩
  · exact ⟨[false, true], by simp [few], rfl⟩
  · exact ⟨[true, false], by simp [few], rfl⟩
  · exact ⟨[true, false], by simp [few], rfl⟩
theorem few_run {turn : D → Sto → R (Option (D × D))} {S : Sto} : ∀ (L : List Pt) (l : List Bool), (∀ q ∈ L, turn (ptD q) S = .ok (match q.2 with | .zone z => some (nmD z, .bl true) | _ => none) S) → few l → ∃ l', few l' ∧ dcS turn (L.map ptD) (l.map nmD, trD l) S = .ok (l'.map nmD, trD l') S
  | [], l, _, h => ⟨l, h, rfl⟩
  | q :: L, l, ht, h => by
    have e := ht q List.mem_cons_self
    have ht' : ∀ q ∈ L, _ := fun q hq => ht q (List.mem_cons_of_mem _ hq)
    obtain ⟨p, t⟩ := q
    cases t with
    | zone z =>
      obtain ⟨l1, h1, e1⟩ := few_put h z
      obtain ⟨l2, h2, e2⟩ := few_run L l1 ht' h1
      refine ⟨l2, h2, ?_⟩
      rw [List.map_cons]
      unfold dcS
      rw [e]
      dsimp only
      rw [e1]
      exact e2
    | _ =>
      obtain ⟨l2, h2, e2⟩ := few_run L l ht' h
      refine ⟨l2, h2, ?_⟩
      rw [List.map_cons]
      unfold dcS
      rw [e]
      exact e2
theorem few_sort {l : List Bool} (h : few l) (S : Sto) : ∃ l' : List Bool, oSortDS [.dct (l.map nmD) (trD l)] S = .ok (.lst (l'.map nmD)) S ∧ l'.length ≤ 2 := by
  unfold few at h
  rcases h with rfl | rfl | rfl | rfl | rfl
  · exact ⟨[], rfl, by decide⟩
  · exact ⟨[false], rfl, by decide⟩
  · exact ⟨[true], rfl, by decide⟩
  · exact ⟨[false, true], rfl, by decide⟩
  · exact ⟨[false, true], rfl, by decide⟩
theorem p_names_in {t : Tm} (ht : td t < 8) (hz : tsz t ≤ 900) : ∃ l : List Bool, l.length ≤ 2 ∧ ∀ S, f_names_in [tmD t] S = .ok (.tup (l.map nmD)) S := by
  have hd : ∃ l', few l' ∧ eDc [1, 2] (iSrc (eCall 1 f_parts_of (aCons (eVar 0) aNil))) (gT 2 (gsCons (gN 1) (gsCons (gN 2) gsNil))) (toB (eOp oEq (eOp oIx (eVar 2) (eC (.int 0))) (eC (.str [122, 111, 110, 101])))) (eOp oIx (eVar 2) (eC (.int 1))) (eC (.bl true)) [some (tmD t), none, none] Sto.nil = .ok (.dct (l'.map nmD) (trD l')) Sto.nil := by
    obtain ⟨l', h1, h2⟩ := few_run (turn := dcT (gT 2 (gsCons (gN 1) (gsCons (gN 2) gsNil))) (toB (eOp oEq (eOp oIx (eVar 2) (eC (.int 0))) (eC (.str [122, 111, 110, 101])))) (eOp oIx (eVar 2) (eC (.int 1))) (eC (.bl true)) [some (tmD t), none, none]) (S := Sto.nil) (pre [] t) [] (fun q hq => by
      obtain ⟨p, u⟩ := q
      cases u with
      | zone z => cases z <;> rfl
      | all => rfl
      | none => rfl
      | not u => rfl
      | op c us =>
        have w2 : ∀ S, oEq (.str (if c then [97, 110, 100] else [111, 114])) (.str [122, 111, 110, 101]) S = .ok (.bl false) S := fun _ => by cases c <;> rfl
        simp only [dcT, gT, rd, ptD, tmD, fnS, env0, sSeq, sSet, sRet, sRetN, sIf, sE, sAsg, sPar, sNx, sPut, R.toS, R.bind, eVar, eC, eOp, eTup, eLst, eLstR, aCons, aNil, eIf, eAn, eOr, eNt, eIsi, toB, tNt, tAn, tOr_, tYs, eCall, eCall0, eB, eMt, eMt0, iSrc, iRg1, iRg2, iEn, iZp, gN, gT, gsCons, gsNil, turnS, List.map_cons, List.map_nil, List.length_cons, List.length_nil, List.replicate, List.cons_append, List.nil_append, List.getElem?_cons_zero, List.getElem?_cons_succ, List.set_cons_zero, List.set_cons_succ, Nat.sub_self, Nat.reduceSub, Nat.reduceAdd, if_true, Bool.false_eq_true, if_false, ite_true, ite_false, List.cons.injEq, and_false, false_and, true_and, and_true, decide_false, decide_true, Bool.not_true, Bool.not_false, Bool.true_and, Bool.false_and, Bool.and_true, Bool.and_false, Bool.or_false, Bool.or_true, Bool.false_or, Bool.true_or, Nat.reduceEqDiff, reduceCtorEq, eSl, pSome, pNone, lcT, wipeE, fits_0, fits_1, fits_2, fits_3, fits_4, z_t0, w2]) (Or.inl rfl)
    refine ⟨l', h1, ?_⟩
    have hs : iSrc (eCall 1 f_parts_of (aCons (eVar 0) aNil)) [some (tmD t), none, none] Sto.nil = .ok (.st ((pre [] t).map ptD)) Sto.nil := by
      simp only [fnS, env0, sSeq, sSet, sRet, sRetN, sIf, sE, sAsg, sPar, sNx, sPut, R.toS, R.bind, eVar, eC, eOp, eTup, eLst, eLstR, aCons, aNil, eIf, eAn, eOr, eNt, eIsi, toB, tNt, tAn, tOr_, tYs, eCall, eCall0, eB, eMt, eMt0, iSrc, iRg1, iRg2, iEn, iZp, gN, gT, gsCons, gsNil, turnS, List.map_cons, List.map_nil, List.length_cons, List.length_nil, List.replicate, List.cons_append, List.nil_append, List.getElem?_cons_zero, List.getElem?_cons_succ, List.set_cons_zero, List.set_cons_succ, Nat.sub_self, Nat.reduceSub, Nat.reduceAdd, if_true, Bool.false_eq_true, if_false, ite_true, ite_false, List.cons.injEq, and_false, false_and, true_and, and_true, decide_false, decide_true, Bool.not_true, Bool.not_false, Bool.true_and, Bool.false_and, Bool.and_true, Bool.and_false, Bool.or_false, Bool.or_true, Bool.false_or, Bool.true_or, Nat.reduceEqDiff, reduceCtorEq, eSl, pSome, pNone, lcT, wipeE, fits_0, fits_1, fits_2, fits_3, fits_4, p_parts_of ht hz, ptsD, srcOf]
    unfold eDc
    rw [hs]
    show (match dcS _ ((pre [] t).map ptD) ([], []) Sto.nil with | .ok a S' => R.ok (D.dct a.1 a.2) S' | _ => .bad) = _
    have h2 : dcS (dcT (gT 2 (gsCons (gN 1) (gsCons (gN 2) gsNil))) (toB (eOp oEq (eOp oIx (eVar 2) (eC (.int 0))) (eC (.str [122, 111, 110, 101])))) (eOp oIx (eVar 2) (eC (.int 1))) (eC (.bl true)) (wipeE [some (tmD t), none, none] [1, 2])) ((pre [] t).map ptD) ([], []) Sto.nil = _ := h2
    rw [h2]
  obtain ⟨l', h1, h2⟩ := hd
  obtain ⟨l2, h3, h4⟩ := few_sort h1 Sto.nil
  refine ⟨l2, h4, fun S => ?_⟩
  refine fnA_ok (S1 := Sto.nil) (by simp [nrfs, tm_nrf]) ?_ (by simp [nrf]; exact nrfs_map _ fun _ _ => rfl)
  refine fn_rt (st_ret ?_)
  show (eB oTuple (aCons (eB oSortDS (aCons _ aNil)) aNil)) [some (tmD t), none, none] Sto.nil = _
  revert h2
  generalize eDc _ _ _ _ _ _ = E
  intro h2
  simp only [fnS, env0, sSeq, sSet, sRet, sRetN, sIf, sE, sAsg, sPar, sNx, sPut, R.toS, R.bind, eVar, eC, eOp, eTup, eLst, eLstR, aCons, aNil, eIf, eAn, eOr, eNt, eIsi, toB, tNt, tAn, tOr_, tYs, eCall, eCall0, eB, eMt, eMt0, iSrc, iRg1, iRg2, iEn, iZp, gN, gT, gsCons, gsNil, turnS, List.map_cons, List.map_nil, List.length_cons, List.length_nil, List.replicate, List.cons_append, List.nil_append, List.getElem?_cons_zero, List.getElem?_cons_succ, List.set_cons_zero, List.set_cons_succ, Nat.sub_self, Nat.reduceSub, Nat.reduceAdd, if_true, Bool.false_eq_true, if_false, ite_true, ite_false, List.cons.injEq, and_false, false_and, true_and, and_true, decide_false, decide_true, Bool.not_true, Bool.not_false, Bool.true_and, Bool.false_and, Bool.and_true, Bool.and_false, Bool.or_false, Bool.or_true, Bool.false_or, Bool.true_or, Nat.reduceEqDiff, reduceCtorEq, eSl, pSome, pNone, lcT, wipeE, fits_0, fits_1, fits_2, fits_3, fits_4, h2, h3]
  rfl
/-! which zones each cell is in -/
def stN (n : Nat) (f : Nat → List D) : Sto := ⟨n, (List.range n).reverse.map fun i => .lst (f i)⟩
def upd (f : Nat → List D) (c : Nat) (l : List D) : Nat → List D := fun i => if i = c then l else f i
theorem stN_get {n i : Nat} {f : Nat → List D} (h : i < n) : (stN n f).get i = some (.lst (f i)) := by
  unfold Sto.get stN
  dsimp only
  rw [if_pos h, List.getElem?_map, List.getElem?_reverse (by rw [List.length_range]; omega), List.length_range, List.getElem?_range (by omega)]
  show some (O.lst (f (n - 1 - (n - 1 - i)))) = _
  rw [show n - 1 - (n - 1 - i) = i by omega]
theorem stN_set {n c : Nat} {f : Nat → List D} {l : List D} (h : c < n) : (stN n f).set c (.lst l) = stN n (upd f c l) := by
  unfold Sto.set stN
  dsimp only
  rw [if_pos h]
  congr 1
  apply List.ext_getElem?
  intro j
  rw [List.getElem?_set]
  by_cases hj : j < n
  · rw [List.getElem?_map, List.getElem?_reverse (by rw [List.length_range]; exact hj), List.length_range, List.getElem?_range (by omega), List.getElem?_map, List.getElem?_reverse (by rw [List.length_range]; exact hj), List.length_range, List.getElem?_range (by omega)]
    simp only [List.length_map, List.length_reverse, List.length_range, Option.map_some, upd]
    by_cases he : n - 1 - c = j
    · rw [if_pos he, if_pos (by omega), if_pos (by omega)]
    · rw [if_neg he, if_neg (by omega)]
  · rw [List.getElem?_eq_none (by simp; omega), List.getElem?_eq_none (by simp; omega)]
    rw [if_neg (by omega)]
theorem stN_app {n c : Nat} {f : Nat → List D} {d : D} (h : c < n) (hl : (f c).length + 1 ≤ 16777216) : oAppend (.ref c) [d] (stN n f) = .ok .non (stN n (upd f c (f c ++ [d]))) := by
  have e : refL (.ref c) (stN n f) = some (c, f c) := by
    unfold refL
    dsimp only
    rw [stN_get h]
  unfold oAppend
  rw [e]
  dsimp only
  rw [if_pos (fits_of hl), stN_set h]
theorem upd_self {f : Nat → List D} {c : Nat} {l : List D} : upd f c l c = l := if_pos rfl
def addN (f : Nat → List D) (d : D) (cs : List Nat) : Nat → List D := fun i => f i ++ (cs.filter fun c => c == i).map fun _ => d
theorem mb_run {n : Nat} (x0 x2 x3 x5 x6 : Option D) (rs : List D) (hr : ∀ c, c < n → rs[c]? = some (.ref c)) (d : D) : ∀ (cs : List Nat) (f : Nat → List D) (x4 : Option D), (∀ c ∈ cs, c < n) → cs.Nodup → (∀ i, (f i).length + cs.length ≤ 1000) → ∃ x4', forS (turnS (gN 4) (sE (eMt tyL oAppend (eOp oIx (eVar 1) (eVar 4)) (aCons (eVar 2) aNil)))) (cs.map nD) [x0, some (.lst rs), some d, x3, x4, x5, x6] (stN n f) = .nx [x0, some (.lst rs), some d, x3, x4', x5, x6] (stN n fun i => f i ++ if cs.contains i = true then [d] else [])
  | [], f, x4, _, _, _ => ⟨x4, by
    show RS.nx _ (stN n f) = _
    congr 2
    funext i
    show f i = f i ++ []
    rw [List.append_nil]⟩
  | c :: cs, f, x4, h, hn, hf => by
    have hc := h c List.mem_cons_self
    obtain ⟨hn1, hn2⟩ := List.nodup_cons.mp hn
    · have happ : oAppend (.ref c) [d] (stN n f) = .ok .non (stN n (upd f c (f c ++ [d]))) := stN_app hc (by have := hf c; omega)
      obtain ⟨x4', e⟩ := mb_run x0 x2 x3 x5 x6 rs hr d cs (upd f c (f c ++ [d])) (some (nD c)) (fun i hi => h i (List.mem_cons_of_mem _ hi)) hn2 (fun i => by
        have h1 := hf i
        have h2 := hf c
        rw [List.length_cons] at h1 h2
        unfold upd
        split
        · rw [List.length_append, List.length_singleton]; omega
        · omega)
      refine ⟨x4', ?_⟩
      rw [List.map_cons]
      unfold forS
      have e1 : turnS (gN 4) (sE (eMt tyL oAppend (eOp oIx (eVar 1) (eVar 4)) (aCons (eVar 2) aNil))) (nD c) [x0, some (.lst rs), some d, x3, x4, x5, x6] (stN n f) = .nx [x0, some (.lst rs), some d, x3, some (nD c), x5, x6] (stN n (upd f c (f c ++ [d]))) := by
        have hix : ∀ S, oIx (.lst rs) (nD c) S = .ok (.ref c) S := fun S => z_ixL (by omega) (by simpa using hr c hc)
        have hty : tyL (.ref c) (stN n f) = true := by
          unfold tyL rd
          dsimp only
          rw [stN_get hc]
        simp only [turnS, fnS, env0, sSeq, sSet, sRet, sRetN, sIf, sE, sAsg, sPar, sNx, sPut, R.toS, R.bind, eVar, eC, eOp, eTup, eLst, eLstR, aCons, aNil, eIf, eAn, eOr, eNt, eIsi, toB, tNt, tAn, tOr_, tYs, eCall, eCall0, eB, eMt, eMt0, iSrc, iRg1, iRg2, iEn, iZp, gN, gT, gsCons, gsNil, turnS, List.map_cons, List.map_nil, List.length_cons, List.length_nil, List.replicate, List.cons_append, List.nil_append, List.getElem?_cons_zero, List.getElem?_cons_succ, List.set_cons_zero, List.set_cons_succ, Nat.sub_self, Nat.reduceSub, Nat.reduceAdd, if_true, Bool.false_eq_true, if_false, ite_true, ite_false, List.cons.injEq, and_false, false_and, true_and, and_true, decide_false, decide_true, Bool.not_true, Bool.not_false, Bool.true_and, Bool.false_and, Bool.and_true, Bool.and_false, Bool.or_false, Bool.or_true, Bool.false_or, Bool.true_or, Nat.reduceEqDiff, reduceCtorEq, eSl, pSome, pNone, lcT, wipeE, fits_0, fits_1, fits_2, fits_3, fits_4, hix, hty, happ]
      rw [e1]
      refine e.trans ?_
      congr 2
      funext i
      unfold upd
      rw [List.contains_cons]
      by_cases hi : i = c
      · subst hi
        rw [if_pos rfl, if_neg (by simpa using hn1), if_pos (by simp)]
        simp
      · rw [if_neg hi]
        congr 2
        simp [hi]
theorem mb_first {n : Nat} (hn : n ≤ 5) (x : List D) : eLc [5] (iRg1 (aCons (eOp oIx (eVar 0) (eC (.int 0))) aNil)) (gN 5) tYs (eLstR aNil) [some (.tup (nD n :: x)), none, none, none, none, none, none] Sto.nil = .ok (.lst ((List.range n).map .ref)) (stN n fun _ => []) := by
  have h : n = 0 ∨ n = 1 ∨ n = 2 ∨ n = 3 ∨ n = 4 ∨ n = 5 := by omega
  have hs : iRg1 (aCons (eOp oIx (eVar 0) (eC (.int 0))) aNil) [some (.tup (nD n :: x)), none, none, none, none, none, none] Sto.nil = .ok (.st (irow 0 n)) Sto.nil := by
    simp only [fnS, env0, sSeq, sSet, sRet, sRetN, sIf, sE, sAsg, sPar, sNx, sPut, R.toS, R.bind, eVar, eC, eOp, eTup, eLst, eLstR, aCons, aNil, eIf, eAn, eOr, eNt, eIsi, toB, tNt, tAn, tOr_, tYs, eCall, eCall0, eB, eMt, eMt0, iSrc, iRg1, iRg2, iEn, iZp, gN, gT, gsCons, gsNil, turnS, List.map_cons, List.map_nil, List.length_cons, List.length_nil, List.replicate, List.cons_append, List.nil_append, List.getElem?_cons_zero, List.getElem?_cons_succ, List.set_cons_zero, List.set_cons_succ, Nat.sub_self, Nat.reduceSub, Nat.reduceAdd, if_true, Bool.false_eq_true, if_false, ite_true, ite_false, List.cons.injEq, and_false, false_and, true_and, and_true, decide_false, decide_true, Bool.not_true, Bool.not_false, Bool.true_and, Bool.false_and, Bool.and_true, Bool.and_false, Bool.or_false, Bool.or_true, Bool.false_or, Bool.true_or, Nat.reduceEqDiff, reduceCtorEq, eSl, pSome, pNone, lcT, wipeE, fits_0, fits_1, fits_2, fits_3, fits_4, z_t0, nD, small_nat (show n ≤ 16777216 by omega), Int.toNat_natCast]
  unfold eLc
  rw [hs]
  rcases h with rfl | rfl | rfl | rfl | rfl | rfl <;> rfl
def mbA (m : Mp) : Nat → List D := fun i => [] ++ if m.za.contains i = true then [nmD false] else []
def mbF (m : Mp) : Nat → List D := fun i => mbA m i ++ if m.zb.contains i = true then [nmD true] else []
theorem p_memberships {m : Mp} (hm : m.Ok) (S : Sto) : f_memberships [mpD m] S = .ok (.tup ((List.range m.n).map fun c => memD (m.za.contains c) (m.zb.contains c))) S := by
  have hrs : ∀ c, c < m.n → ((List.range m.n).map D.ref)[c]? = some (.ref c) := fun c h => by
    rw [List.getElem?_map, List.getElem?_range h]; rfl
  obtain ⟨x4, e1⟩ := mb_run (some (mpD m)) none (some (cellsD m.za)) none none ((List.range m.n).map D.ref) hrs (nmD false) m.za (fun _ => []) none hm.a hm.na (fun i => by have := hm.al; simp; omega)
  obtain ⟨x5, e2⟩ := mb_run (some (mpD m)) none (some (cellsD m.zb)) none none ((List.range m.n).map D.ref) hrs (nmD true) m.zb (mbA m) x4 hm.b hm.nb (fun i => by have := hm.bl; unfold mbA; split <;> simp <;> omega)
  have hfin : eLc [6] (iSrc (eVar 1)) (gN 6) tYs (eB oTuple (aCons (eVar 6) aNil)) [some (mpD m), some (.lst ((List.range m.n).map .ref)), some (nmD true), some (cellsD m.zb), x5, none, none] (stN m.n (mbF m)) = .ok (.lst ((List.range m.n).map fun c => memD (m.za.contains c) (m.zb.contains c))) (stN m.n (mbF m)) := by
    refine eLc_m (emb := D.ref) (xs := List.range m.n) ?_ (fun c hc => ?_) (by rw [List.length_range]; have := hm.n; omega)
    · simp only [fnS, env0, sSeq, sSet, sRet, sRetN, sIf, sE, sAsg, sPar, sNx, sPut, R.toS, R.bind, eVar, eC, eOp, eTup, eLst, eLstR, aCons, aNil, eIf, eAn, eOr, eNt, eIsi, toB, tNt, tAn, tOr_, tYs, eCall, eCall0, eB, eMt, eMt0, iSrc, iRg1, iRg2, iEn, iZp, gN, gT, gsCons, gsNil, turnS, List.map_cons, List.map_nil, List.length_cons, List.length_nil, List.replicate, List.cons_append, List.nil_append, List.getElem?_cons_zero, List.getElem?_cons_succ, List.set_cons_zero, List.set_cons_succ, Nat.sub_self, Nat.reduceSub, Nat.reduceAdd, if_true, Bool.false_eq_true, if_false, ite_true, ite_false, List.cons.injEq, and_false, false_and, true_and, and_true, decide_false, decide_true, Bool.not_true, Bool.not_false, Bool.true_and, Bool.false_and, Bool.and_true, Bool.and_false, Bool.or_false, Bool.or_true, Bool.false_or, Bool.true_or, Nat.reduceEqDiff, reduceCtorEq, eSl, pSome, pNone, lcT, wipeE, fits_0, fits_1, fits_2, fits_3, fits_4, srcOf]
    · have hc := List.mem_range.mp hc
      have ht : oTuple [.ref c] (stN m.n (mbF m)) = .ok (memD (m.za.contains c) (m.zb.contains c)) (stN m.n (mbF m)) := by
        unfold oTuple rd
        dsimp only
        rw [stN_get hc]
        rfl
      simp only [fnS, env0, sSeq, sSet, sRet, sRetN, sIf, sE, sAsg, sPar, sNx, sPut, R.toS, R.bind, eVar, eC, eOp, eTup, eLst, eLstR, aCons, aNil, eIf, eAn, eOr, eNt, eIsi, toB, tNt, tAn, tOr_, tYs, eCall, eCall0, eB, eMt, eMt0, iSrc, iRg1, iRg2, iEn, iZp, gN, gT, gsCons, gsNil, turnS, List.map_cons, List.map_nil, List.length_cons, List.length_nil, List.replicate, List.cons_append, List.nil_append, List.getElem?_cons_zero, List.getElem?_cons_succ, List.set_cons_zero, List.set_cons_succ, Nat.sub_self, Nat.reduceSub, Nat.reduceAdd, if_true, Bool.false_eq_true, if_false, ite_true, ite_false, List.cons.injEq, and_false, false_and, true_and, and_true, decide_false, decide_true, Bool.not_true, Bool.not_false, Bool.true_and, Bool.false_and, Bool.and_true, Bool.and_false, Bool.or_false, Bool.or_true, Bool.false_or, Bool.true_or, Nat.reduceEqDiff, reduceCtorEq, eSl, pSome, pNone, lcT, wipeE, fits_0, fits_1, fits_2, fits_3, fits_4, ht]
  refine fnA_ok (S1 := stN m.n (mbF m)) (by simp [nrfs, mp_nrf]) ?_ (by
    simp only [nrf]
    exact nrfs_map _ fun c _ => by cases m.za.contains c <;> cases m.zb.contains c <;> rfl)
  refine fn_rt ?_
  refine sq_nx (st_set (mb_first hm.n _)) ?_
  refine sq_nx (ρ' := [some (mpD m), some (.lst ((List.range m.n).map .ref)), some (nmD true), some (cellsD m.zb), x5, none, none]) (S' := stN m.n (mbF m)) (st_for (S := stN m.n fun _ => []) (ds := [.tup [nmD false, cellsD m.za], .tup [nmD true, cellsD m.zb]]) rfl ?_) (st_ret ?_)
  · have t1 : turnS (gT 2 (gsCons (gN 2) (gsCons (gN 3) gsNil))) (sFor (iSrc (eVar 3)) (gN 4) (sE (eMt tyL oAppend (eOp oIx (eVar 1) (eVar 4)) (aCons (eVar 2) aNil)))) (.tup [nmD false, cellsD m.za]) [some (mpD m), some (.lst ((List.range m.n).map .ref)), none, none, none, none, none] (stN m.n fun _ => []) = .nx [some (mpD m), some (.lst ((List.range m.n).map .ref)), some (nmD false), some (cellsD m.za), x4, none, none] (stN m.n (mbA m)) := by
      show sFor (iSrc (eVar 3)) (gN 4) _ [some (mpD m), some (.lst ((List.range m.n).map .ref)), some (nmD false), some (cellsD m.za), none, none, none] (stN m.n fun _ => []) = _
      exact st_for rfl e1
    have t2 : turnS (gT 2 (gsCons (gN 2) (gsCons (gN 3) gsNil))) (sFor (iSrc (eVar 3)) (gN 4) (sE (eMt tyL oAppend (eOp oIx (eVar 1) (eVar 4)) (aCons (eVar 2) aNil)))) (.tup [nmD true, cellsD m.zb]) [some (mpD m), some (.lst ((List.range m.n).map .ref)), some (nmD false), some (cellsD m.za), x4, none, none] (stN m.n (mbA m)) = .nx [some (mpD m), some (.lst ((List.range m.n).map .ref)), some (nmD true), some (cellsD m.zb), x5, none, none] (stN m.n (mbF m)) := by
      show sFor (iSrc (eVar 3)) (gN 4) _ [some (mpD m), some (.lst ((List.range m.n).map .ref)), some (nmD true), some (cellsD m.zb), x4, none, none] (stN m.n (mbA m)) = _
      exact st_for rfl e2
    exact forS_c t1 (forS_c t2 forS_e)
  · show (eB oTuple (aCons _ aNil)) _ _ = _
    revert hfin
    generalize eLc _ _ _ _ _ = E
    intro hfin
    simp only [fnS, env0, sSeq, sSet, sRet, sRetN, sIf, sE, sAsg, sPar, sNx, sPut, R.toS, R.bind, eVar, eC, eOp, eTup, eLst, eLstR, aCons, aNil, eIf, eAn, eOr, eNt, eIsi, toB, tNt, tAn, tOr_, tYs, eCall, eCall0, eB, eMt, eMt0, iSrc, iRg1, iRg2, iEn, iZp, gN, gT, gsCons, gsNil, turnS, List.map_cons, List.map_nil, List.length_cons, List.length_nil, List.replicate, List.cons_append, List.nil_append, List.getElem?_cons_zero, List.getElem?_cons_succ, List.set_cons_zero, List.set_cons_succ, Nat.sub_self, Nat.reduceSub, Nat.reduceAdd, if_true, Bool.false_eq_true, if_false, ite_true, ite_false, List.cons.injEq, and_false, false_and, true_and, and_true, decide_false, decide_true, Bool.not_true, Bool.not_false, Bool.true_and, Bool.false_and, Bool.and_true, Bool.and_false, Bool.or_false, Bool.or_true, Bool.false_or, Bool.true_or, Nat.reduceEqDiff, reduceCtorEq, eSl, pSome, pNone, lcT, wipeE, fits_0, fits_1, fits_2, fits_3, fits_4, hfin]
    rfl
end Zk24

namespace Zk24
open PySem PySem.Spec PyProof PyProof.Rows L2 Z
/-- a term the law may draw -/
structure Tm.Ok2 (t : Tm) : Prop where
  d : td t < 8
  z : tsz t ≤ 900
theorem Tm.Ok2.ok {t : Tm} (h : t.Ok2) : t.Ok := ⟨h.d, by have := h.z; omega⟩
theorem in_nm (z : Bool) (S : Sto) : oIn (nmD z) (.tup [nmD false, nmD true]) S = .ok (.bl true) S := by cases z <;> rfl
theorem p_cells_of {m : Mp} {t : Tm} (hm : m.Ok) (ht : t.Ok2) (S : Sto) : f_cells_of [mpD m, tmD t] S = .ok (cellsD (cellsOf m t)) S := by
  obtain ⟨l, hl, hn⟩ := p_names_in ht.d ht.z
  refine fnA_ok (S1 := Sto.nil) (by simp [nrfs, mp_nrf, tm_nrf]) ?_ (cells_nrf _)
  refine fn_rt ?_
  unfold m_cells_of
  refine sq_nx (st_set (d := .tup [nmD false, nmD true]) (S' := Sto.nil) (by simp only [fnS, env0, sSeq, sSet, sRet, sRetN, sIf, sE, sAsg, sPar, sNx, sPut, R.toS, R.bind, eVar, eC, eOp, eTup, eLst, eLstR, aCons, aNil, eIf, eAn, eOr, eNt, eIsi, toB, tNt, tAn, tOr_, tYs, eCall, eCall0, eB, eMt, eMt0, iSrc, iRg1, iRg2, iEn, iZp, gN, gT, gsCons, gsNil, turnS, List.map_cons, List.map_nil, List.length_cons, List.length_nil, List.replicate, List.cons_append, List.nil_append, List.getElem?_cons_zero, List.getElem?_cons_succ, List.set_cons_zero, List.set_cons_succ, Nat.sub_self, Nat.reduceSub, Nat.reduceAdd, if_true, Bool.false_eq_true, if_false, ite_true, ite_false, List.cons.injEq, and_false, false_and, true_and, and_true, decide_false, decide_true, Bool.not_true, Bool.not_false, Bool.true_and, Bool.false_and, Bool.and_true, Bool.and_false, Bool.or_false, Bool.or_true, Bool.false_or, Bool.true_or, Nat.reduceEqDiff, reduceCtorEq, eSl, pSome, pNone, lcT, wipeE, fits_0, fits_1, fits_2, fits_3, fits_4, p_names_of])) ?_
  refine sq_nx (st_iff (S' := Sto.nil) ?_ st_nx) (st_ret ?_)
  · have e : eLc [3] (iSrc (eCall 1 f_names_in (aCons (eVar 1) aNil))) (gN 3) tYs (eOp oIn (eVar 3) (eVar 2)) [some (mpD m), some (tmD t), some (.tup [nmD false, nmD true]), none, none, none] Sto.nil = .ok (.lst ((l.map fun _ => true).map .bl)) Sto.nil := by
      rw [List.map_map]
      refine eLc_m (emb := nmD) (xs := l) ?_ (fun z _ => ?_) (by omega)
      · simp only [fnS, env0, sSeq, sSet, sRet, sRetN, sIf, sE, sAsg, sPar, sNx, sPut, R.toS, R.bind, eVar, eC, eOp, eTup, eLst, eLstR, aCons, aNil, eIf, eAn, eOr, eNt, eIsi, toB, tNt, tAn, tOr_, tYs, eCall, eCall0, eB, eMt, eMt0, iSrc, iRg1, iRg2, iEn, iZp, gN, gT, gsCons, gsNil, turnS, List.map_cons, List.map_nil, List.length_cons, List.length_nil, List.replicate, List.cons_append, List.nil_append, List.getElem?_cons_zero, List.getElem?_cons_succ, List.set_cons_zero, List.set_cons_succ, Nat.sub_self, Nat.reduceSub, Nat.reduceAdd, if_true, Bool.false_eq_true, if_false, ite_true, ite_false, List.cons.injEq, and_false, false_and, true_and, and_true, decide_false, decide_true, Bool.not_true, Bool.not_false, Bool.true_and, Bool.false_and, Bool.and_true, Bool.and_false, Bool.or_false, Bool.or_true, Bool.false_or, Bool.true_or, Nat.reduceEqDiff, reduceCtorEq, eSl, pSome, pNone, lcT, wipeE, fits_0, fits_1, fits_2, fits_3, fits_4, hn, srcOf]
      · simp only [fnS, env0, sSeq, sSet, sRet, sRetN, sIf, sE, sAsg, sPar, sNx, sPut, R.toS, R.bind, eVar, eC, eOp, eTup, eLst, eLstR, aCons, aNil, eIf, eAn, eOr, eNt, eIsi, toB, tNt, tAn, tOr_, tYs, eCall, eCall0, eB, eMt, eMt0, iSrc, iRg1, iRg2, iEn, iZp, gN, gT, gsCons, gsNil, turnS, List.map_cons, List.map_nil, List.length_cons, List.length_nil, List.replicate, List.cons_append, List.nil_append, List.getElem?_cons_zero, List.getElem?_cons_succ, List.set_cons_zero, List.set_cons_succ, Nat.sub_self, Nat.reduceSub, Nat.reduceAdd, if_true, Bool.false_eq_true, if_false, ite_true, ite_false, List.cons.injEq, and_false, false_and, true_and, and_true, decide_false, decide_true, Bool.not_true, Bool.not_false, Bool.true_and, Bool.false_and, Bool.and_true, Bool.and_false, Bool.or_false, Bool.or_true, Bool.false_or, Bool.true_or, Nat.reduceEqDiff, reduceCtorEq, eSl, pSome, pNone, lcT, wipeE, fits_0, fits_1, fits_2, fits_3, fits_4, in_nm, Function.comp]
    show tNt (toB (eB oAll (aCons _ aNil))) [some (mpD m), some (tmD t), some (.tup [nmD false, nmD true]), none, none, none] Sto.nil = _
    revert e
    generalize eLc _ _ _ _ _ = E
    intro e
    simp only [fnS, env0, sSeq, sSet, sRet, sRetN, sIf, sE, sAsg, sPar, sNx, sPut, R.toS, R.bind, eVar, eC, eOp, eTup, eLst, eLstR, aCons, aNil, eIf, eAn, eOr, eNt, eIsi, toB, tNt, tAn, tOr_, tYs, eCall, eCall0, eB, eMt, eMt0, iSrc, iRg1, iRg2, iEn, iZp, gN, gT, gsCons, gsNil, turnS, List.map_cons, List.map_nil, List.length_cons, List.length_nil, List.replicate, List.cons_append, List.nil_append, List.getElem?_cons_zero, List.getElem?_cons_succ, List.set_cons_zero, List.set_cons_succ, Nat.sub_self, Nat.reduceSub, Nat.reduceAdd, if_true, Bool.false_eq_true, if_false, ite_true, ite_false, List.cons.injEq, and_false, false_and, true_and, and_true, decide_false, decide_true, Bool.not_true, Bool.not_false, Bool.true_and, Bool.false_and, Bool.and_true, Bool.and_false, Bool.or_false, Bool.or_true, Bool.false_or, Bool.true_or, Nat.reduceEqDiff, reduceCtorEq, eSl, pSome, pNone, lcT, wipeE, fits_0, fits_1, fits_2, fits_3, fits_4, e, z_all]
    simp
  · have e : eLc [4, 5] (iEn (aCons (eCall 1 f_memberships (aCons (eVar 0) aNil)) aNil)) (gT 2 (gsCons (gN 4) (gsCons (gN 5) gsNil))) (toB (eCall 2 f_is_in_by (aCons (eVar 1) (aCons (eVar 5) aNil)))) (eVar 4) [some (mpD m), some (tmD t), some (.tup [nmD false, nmD true]), none, none, none] Sto.nil = .ok (.lst ((cellsOf m t).map nD)) Sto.nil := by
      have hr := numL_range (fun c => (m.za.contains c, m.zb.contains c)) (inT m t) m.n 0
      rw [← List.range_eq_range'] at hr
      refine eLc_e (emb := fun q : Int × Bool × Bool => .tup [.int q.1, memD q.2.1 q.2.2]) (out := fun q => .int q.1) (fun q => inT m t q.1.toNat) (xs := numL ((0 : Nat) : Int) ((List.range m.n).map fun c => (m.za.contains c, m.zb.contains c))) ?_ (fun q hq => ?_) (by rw [numL_len, List.length_map, List.length_range]; have := hm.n; omega) hr
      · have : numb 0 ((List.range m.n).map fun c => memD (m.za.contains c) (m.zb.contains c)) = (numL ((0 : Nat) : Int) ((List.range m.n).map fun c => (m.za.contains c, m.zb.contains c))).map fun q => .tup [.int q.1, memD q.2.1 q.2.2] := by
          rw [← numb_map (fun b : Bool × Bool => memD b.1 b.2), List.map_map]
          rfl
        simp only [fnS, env0, sSeq, sSet, sRet, sRetN, sIf, sE, sAsg, sPar, sNx, sPut, R.toS, R.bind, eVar, eC, eOp, eTup, eLst, eLstR, aCons, aNil, eIf, eAn, eOr, eNt, eIsi, toB, tNt, tAn, tOr_, tYs, eCall, eCall0, eB, eMt, eMt0, iSrc, iRg1, iRg2, iEn, iZp, gN, gT, gsCons, gsNil, turnS, List.map_cons, List.map_nil, List.length_cons, List.length_nil, List.replicate, List.cons_append, List.nil_append, List.getElem?_cons_zero, List.getElem?_cons_succ, List.set_cons_zero, List.set_cons_succ, Nat.sub_self, Nat.reduceSub, Nat.reduceAdd, if_true, Bool.false_eq_true, if_false, ite_true, ite_false, List.cons.injEq, and_false, false_and, true_and, and_true, decide_false, decide_true, Bool.not_true, Bool.not_false, Bool.true_and, Bool.false_and, Bool.and_true, Bool.and_false, Bool.or_false, Bool.or_true, Bool.false_or, Bool.true_or, Nat.reduceEqDiff, reduceCtorEq, eSl, pSome, pNone, lcT, wipeE, fits_0, fits_1, fits_2, fits_3, fits_4, p_memberships hm, srcOf, lkE, this]
      · rw [List.range_eq_range'] at hq
        obtain ⟨c, rfl, _⟩ := numL_rangeM m.n 0 hq
        simp only [gT, rd, fnS, env0, sSeq, sSet, sRet, sRetN, sIf, sE, sAsg, sPar, sNx, sPut, R.toS, R.bind, eVar, eC, eOp, eTup, eLst, eLstR, aCons, aNil, eIf, eAn, eOr, eNt, eIsi, toB, tNt, tAn, tOr_, tYs, eCall, eCall0, eB, eMt, eMt0, iSrc, iRg1, iRg2, iEn, iZp, gN, gT, gsCons, gsNil, turnS, List.map_cons, List.map_nil, List.length_cons, List.length_nil, List.replicate, List.cons_append, List.nil_append, List.getElem?_cons_zero, List.getElem?_cons_succ, List.set_cons_zero, List.set_cons_succ, Nat.sub_self, Nat.reduceSub, Nat.reduceAdd, if_true, Bool.false_eq_true, if_false, ite_true, ite_false, List.cons.injEq, and_false, false_and, true_and, and_true, decide_false, decide_true, Bool.not_true, Bool.not_false, Bool.true_and, Bool.false_and, Bool.and_true, Bool.and_false, Bool.or_false, Bool.or_true, Bool.false_or, Bool.true_or, Nat.reduceEqDiff, reduceCtorEq, eSl, pSome, pNone, lcT, wipeE, fits_0, fits_1, fits_2, fits_3, fits_4, p_is_in_by ht.d ht.z, inT, Int.toNat_natCast]
        exact ite_ok
    show (eB oTuple (aCons _ aNil)) [some (mpD m), some (tmD t), some (.tup [nmD false, nmD true]), none, none, none] Sto.nil = _
    revert e
    generalize eLc _ _ _ _ _ = E
    intro e
    simp only [fnS, env0, sSeq, sSet, sRet, sRetN, sIf, sE, sAsg, sPar, sNx, sPut, R.toS, R.bind, eVar, eC, eOp, eTup, eLst, eLstR, aCons, aNil, eIf, eAn, eOr, eNt, eIsi, toB, tNt, tAn, tOr_, tYs, eCall, eCall0, eB, eMt, eMt0, iSrc, iRg1, iRg2, iEn, iZp, gN, gT, gsCons, gsNil, turnS, List.map_cons, List.map_nil, List.length_cons, List.length_nil, List.replicate, List.cons_append, List.nil_append, List.getElem?_cons_zero, List.getElem?_cons_succ, List.set_cons_zero, List.set_cons_succ, Nat.sub_self, Nat.reduceSub, Nat.reduceAdd, if_true, Bool.false_eq_true, if_false, ite_true, ite_false, List.cons.injEq, and_false, false_and, true_and, and_true, decide_false, decide_true, Bool.not_true, Bool.not_false, Bool.true_and, Bool.false_and, Bool.and_true, Bool.and_false, Bool.or_false, Bool.or_true, Bool.false_or, Bool.true_or, Nat.reduceEqDiff, reduceCtorEq, eSl, pSome, pNone, lcT, wipeE, fits_0, fits_1, fits_2, fits_3, fits_4, e]
    rfl
theorem p_is_counts (l : List Nat) (hl : l.length ≤ 1000) (S : Sto) : f_is_counts [cellsD l] S = .ok (.bl true) S := by
  refine fnA_ok (S1 := Sto.nil) (by simp [nrfs, cells_nrf]) ?_ rfl
  refine fn_rt (st_ret ?_)
  have e : eLc [1] (iSrc (eVar 0)) (gN 1) tYs (eCall 1 f_is_count (aCons (eVar 1) aNil)) [some (cellsD l), none] Sto.nil = .ok (.lst ((l.map fun _ => true).map .bl)) Sto.nil := by
    rw [List.map_map]
    refine eLc_m (emb := nD) (xs := l) ?_ (fun c _ => ?_) (by omega)
    · simp only [fnS, env0, sSeq, sSet, sRet, sRetN, sIf, sE, sAsg, sPar, sNx, sPut, R.toS, R.bind, eVar, eC, eOp, eTup, eLst, eLstR, aCons, aNil, eIf, eAn, eOr, eNt, eIsi, toB, tNt, tAn, tOr_, tYs, eCall, eCall0, eB, eMt, eMt0, iSrc, iRg1, iRg2, iEn, iZp, gN, gT, gsCons, gsNil, turnS, List.map_cons, List.map_nil, List.length_cons, List.length_nil, List.replicate, List.cons_append, List.nil_append, List.getElem?_cons_zero, List.getElem?_cons_succ, List.set_cons_zero, List.set_cons_succ, Nat.sub_self, Nat.reduceSub, Nat.reduceAdd, if_true, Bool.false_eq_true, if_false, ite_true, ite_false, List.cons.injEq, and_false, false_and, true_and, and_true, decide_false, decide_true, Bool.not_true, Bool.not_false, Bool.true_and, Bool.false_and, Bool.and_true, Bool.and_false, Bool.or_false, Bool.or_true, Bool.false_or, Bool.true_or, Nat.reduceEqDiff, reduceCtorEq, eSl, pSome, pNone, lcT, wipeE, fits_0, fits_1, fits_2, fits_3, fits_4, cellsD, srcOf]
    · have : isC (nD c) = true := by simp [isC, nD]
      simp only [fnS, env0, sSeq, sSet, sRet, sRetN, sIf, sE, sAsg, sPar, sNx, sPut, R.toS, R.bind, eVar, eC, eOp, eTup, eLst, eLstR, aCons, aNil, eIf, eAn, eOr, eNt, eIsi, toB, tNt, tAn, tOr_, tYs, eCall, eCall0, eB, eMt, eMt0, iSrc, iRg1, iRg2, iEn, iZp, gN, gT, gsCons, gsNil, turnS, List.map_cons, List.map_nil, List.length_cons, List.length_nil, List.replicate, List.cons_append, List.nil_append, List.getElem?_cons_zero, List.getElem?_cons_succ, List.set_cons_zero, List.set_cons_succ, Nat.sub_self, Nat.reduceSub, Nat.reduceAdd, if_true, Bool.false_eq_true, if_false, ite_true, ite_false, List.cons.injEq, and_false, false_and, true_and, and_true, decide_false, decide_true, Bool.not_true, Bool.not_false, Bool.true_and, Bool.false_and, Bool.and_true, Bool.and_false, Bool.or_false, Bool.or_true, Bool.false_or, Bool.true_or, Nat.reduceEqDiff, reduceCtorEq, eSl, pSome, pNone, lcT, wipeE, fits_0, fits_1, fits_2, fits_3, fits_4, p_is_count (show val (nD c) = true from rfl), this, Function.comp]
  show (eAn (eIsi .tuple (eVar 0)) (eB oAll (aCons _ aNil))) [some (cellsD l), none] Sto.nil = _
  revert e
  generalize eLc _ _ _ _ _ = E
  intro e
  simp only [fnS, env0, sSeq, sSet, sRet, sRetN, sIf, sE, sAsg, sPar, sNx, sPut, R.toS, R.bind, eVar, eC, eOp, eTup, eLst, eLstR, aCons, aNil, eIf, eAn, eOr, eNt, eIsi, toB, tNt, tAn, tOr_, tYs, eCall, eCall0, eB, eMt, eMt0, iSrc, iRg1, iRg2, iEn, iZp, gN, gT, gsCons, gsNil, turnS, List.map_cons, List.map_nil, List.length_cons, List.length_nil, List.replicate, List.cons_append, List.nil_append, List.getElem?_cons_zero, List.getElem?_cons_succ, List.set_cons_zero, List.set_cons_succ, Nat.sub_self, Nat.reduceSub, Nat.reduceAdd, if_true, Bool.false_eq_true, if_false, ite_true, ite_false, List.cons.injEq, and_false, false_and, true_and, and_true, decide_false, decide_true, Bool.not_true, Bool.not_false, Bool.true_and, Bool.false_and, Bool.and_true, Bool.and_false, Bool.or_false, Bool.or_true, Bool.false_or, Bool.true_or, Nat.reduceEqDiff, reduceCtorEq, eSl, pSome, pNone, lcT, wipeE, fits_0, fits_1, fits_2, fits_3, fits_4, eIsi, show rd Sto.nil (cellsD l) = cellsD l from rfl, show tyB .tuple (cellsD l) = some true from rfl, e, z_all]
  simp
theorem p_check_cells {m : Mp} {l : List Nat} (hl : l.length ≤ 1000) (h : ∀ c ∈ l, c < m.n) (S : Sto) : f_check_cells [mpD m, cellsD l] S = .ok .non S := by
  refine fnA_ok (S1 := Sto.nil) (by simp [nrfs, mp_nrf, cells_nrf]) ?_ rfl
  refine fn_nx (ρ := [some (mpD m), some (cellsD l), none]) (st_iff (S' := Sto.nil) ?_ st_nx)
  have e : eLc [2] (iSrc (eVar 1)) (gN 2) tYs (eOp (oCmp .Lt) (eVar 2) (eOp oIx (eVar 0) (eC (.int 0)))) [some (mpD m), some (cellsD l), none] Sto.nil = .ok (.lst ((l.map fun _ => true).map .bl)) Sto.nil := by
    rw [List.map_map]
    refine eLc_m (emb := nD) (xs := l) ?_ (fun c hc => ?_) (by omega)
    · simp only [fnS, env0, sSeq, sSet, sRet, sRetN, sIf, sE, sAsg, sPar, sNx, sPut, R.toS, R.bind, eVar, eC, eOp, eTup, eLst, eLstR, aCons, aNil, eIf, eAn, eOr, eNt, eIsi, toB, tNt, tAn, tOr_, tYs, eCall, eCall0, eB, eMt, eMt0, iSrc, iRg1, iRg2, iEn, iZp, gN, gT, gsCons, gsNil, turnS, List.map_cons, List.map_nil, List.length_cons, List.length_nil, List.replicate, List.cons_append, List.nil_append, List.getElem?_cons_zero, List.getElem?_cons_succ, List.set_cons_zero, List.set_cons_succ, Nat.sub_self, Nat.reduceSub, Nat.reduceAdd, if_true, Bool.false_eq_true, if_false, ite_true, ite_false, List.cons.injEq, and_false, false_and, true_and, and_true, decide_false, decide_true, Bool.not_true, Bool.not_false, Bool.true_and, Bool.false_and, Bool.and_true, Bool.and_false, Bool.or_false, Bool.or_true, Bool.false_or, Bool.true_or, Nat.reduceEqDiff, reduceCtorEq, eSl, pSome, pNone, lcT, wipeE, fits_0, fits_1, fits_2, fits_3, fits_4, cellsD, srcOf]
    · have := h c hc
      simp only [fnS, env0, sSeq, sSet, sRet, sRetN, sIf, sE, sAsg, sPar, sNx, sPut, R.toS, R.bind, eVar, eC, eOp, eTup, eLst, eLstR, aCons, aNil, eIf, eAn, eOr, eNt, eIsi, toB, tNt, tAn, tOr_, tYs, eCall, eCall0, eB, eMt, eMt0, iSrc, iRg1, iRg2, iEn, iZp, gN, gT, gsCons, gsNil, turnS, List.map_cons, List.map_nil, List.length_cons, List.length_nil, List.replicate, List.cons_append, List.nil_append, List.getElem?_cons_zero, List.getElem?_cons_succ, List.set_cons_zero, List.set_cons_succ, Nat.sub_self, Nat.reduceSub, Nat.reduceAdd, if_true, Bool.false_eq_true, if_false, ite_true, ite_false, List.cons.injEq, and_false, false_and, true_and, and_true, decide_false, decide_true, Bool.not_true, Bool.not_false, Bool.true_and, Bool.false_and, Bool.and_true, Bool.and_false, Bool.or_false, Bool.or_true, Bool.false_or, Bool.true_or, Nat.reduceEqDiff, reduceCtorEq, eSl, pSome, pNone, lcT, wipeE, fits_0, fits_1, fits_2, fits_3, fits_4, mpD, z_t0, nD, z_lt, Function.comp, show ((c : Int) < m.n) by omega]
  show (tOr_ (tNt (toB (eCall 1 f_is_counts (aCons (eVar 1) aNil)))) (tNt (toB (eB oAll (aCons _ aNil))))) [some (mpD m), some (cellsD l), none] Sto.nil = _
  revert e
  generalize eLc _ _ _ _ _ = E
  intro e
  simp only [fnS, env0, sSeq, sSet, sRet, sRetN, sIf, sE, sAsg, sPar, sNx, sPut, R.toS, R.bind, eVar, eC, eOp, eTup, eLst, eLstR, aCons, aNil, eIf, eAn, eOr, eNt, eIsi, toB, tNt, tAn, tOr_, tYs, eCall, eCall0, eB, eMt, eMt0, iSrc, iRg1, iRg2, iEn, iZp, gN, gT, gsCons, gsNil, turnS, List.map_cons, List.map_nil, List.length_cons, List.length_nil, List.replicate, List.cons_append, List.nil_append, List.getElem?_cons_zero, List.getElem?_cons_succ, List.set_cons_zero, List.set_cons_succ, Nat.sub_self, Nat.reduceSub, Nat.reduceAdd, if_true, Bool.false_eq_true, if_false, ite_true, ite_false, List.cons.injEq, and_false, false_and, true_and, and_true, decide_false, decide_true, Bool.not_true, Bool.not_false, Bool.true_and, Bool.false_and, Bool.and_true, Bool.and_false, Bool.or_false, Bool.or_true, Bool.false_or, Bool.true_or, Nat.reduceEqDiff, reduceCtorEq, eSl, pSome, pNone, lcT, wipeE, fits_0, fits_1, fits_2, fits_3, fits_4, p_is_counts l hl, e, z_all]
  simp
/-! dicts that stand for sets of numbers -/
def setD (l : List Nat) : D := .dct (l.map nD) (l.map fun _ => .bl true)
theorem dhas_any (k : D) : ∀ ks : List D, dhas ks k = ks.any fun z => eqv z k
  | [] => rfl
  | x :: ks => by rw [List.any_cons, ← dhas_any k ks]; rfl
theorem dhas_nat (c : Nat) (l : List Nat) : dhas (l.map nD) (nD c) = l.contains c := by rw [dhas_any]; exact any_nat c l
theorem dcS_set {turn : D → Sto → R (Option (D × D))} {S : Sto} (ht : ∀ c : Nat, turn (nD c) S = .ok (some (nD c, .bl true)) S) : ∀ (l a : List Nat), (a ++ l).Nodup → (a ++ l).length ≤ 1000 → dcS turn (l.map nD) (a.map nD, a.map fun _ => .bl true) S = .ok ((a ++ l).map nD, (a ++ l).map fun _ => .bl true) S
  | [], a, _, _ => by rw [List.append_nil]; rfl
  | c :: l, a, h, hl => by
    have hc : a.contains c = false := by
      rw [Bool.eq_false_iff]
      intro hc
      have hc : c ∈ a := by simpa using hc
      exact (List.nodup_append.mp h).2.2 c hc c List.mem_cons_self rfl
    have ih := dcS_set ht l (a ++ [c]) (by simpa using h) (by simpa using hl)
    rw [List.map_cons]
    unfold dcS
    rw [ht c]
    have hp : dcPut (a.map nD, a.map fun _ => .bl true) (nD c) (.bl true) = some ((a ++ [c]).map nD, (a ++ [c]).map fun _ => .bl true) := by
      show (if fits ((a.map nD).length + 1) = true then some (dput (a.map nD) (a.map fun _ => .bl true) (nD c) (.bl true)) else none) = _
      rw [if_pos (fits_of (by rw [List.length_map]; rw [List.length_append] at hl; omega))]
      unfold dput
      rw [dhas_nat, hc, if_neg Bool.false_ne_true, List.map_append, List.map_append]
      rfl
    dsimp only
    rw [hp]
    dsimp only
    rw [ih, List.append_assoc]
    rfl
theorem dfind_set (c : Nat) : ∀ l : List Nat, (dfind (l.map nD) (l.map fun _ => .bl true) (nD c)).isSome = l.contains c
  | [] => rfl
  | x :: l => by
    rw [List.map_cons, List.map_cons, dfind, List.contains_cons, ← dfind_set c l]
    by_cases h : c = x
    · subst h
      rw [if_pos (by simp [nD, eqv])]
      simp
    · rw [if_neg (by simp [nD, eqv]; omega)]
      simp [h]
theorem z_inSet {c : Nat} {l : List Nat} {S : Sto} : oIn (nD c) (setD l) S = .ok (.bl (l.contains c)) S := by
  show (match (match keyOf (nD c) with | some _ => some (dfind (l.map nD) (l.map fun _ => .bl true) (nD c)).isSome | none => none) with | some r => R.ok (D.bl r) S | none => .bad) = _
  rw [dfind_set]
  rfl
theorem p_seams_between {m : Mp} {l1 l2 : List Nat} (hm : m.Ok) (h1 : ∀ c ∈ l1, c < m.n) (h2 : ∀ c ∈ l2, c < m.n) (n1 : l1.Nodup) (n2 : l2.Nodup) (k1 : l1.length ≤ 1000) (k2 : l2.length ≤ 1000) (S : Sto) : f_seams_between [mpD m, cellsD l1, cellsD l2] S = .ok (seamsD (seamsOf m l1 l2)) S := by
  have hl := hm.sl
  have ed : ∀ (i : Nat) (l : List Nat) (ρ : Z.Env), l.Nodup → l.length ≤ 1000 → eVar i ρ Sto.nil = .ok (cellsD l) Sto.nil → ρ.length = 9 → eDc [8] (iSrc (eVar i)) (gN 8) tYs (eVar 8) (eC (.bl true)) ρ Sto.nil = .ok (setD l) Sto.nil := by
    intro i l ρ hn hk hi h9
    have hs : iSrc (eVar i) ρ Sto.nil = .ok (.st (l.map nD)) Sto.nil := by
      unfold iSrc
      rw [hi]
      rfl
    unfold eDc
    rw [hs]
    show (match dcS _ (l.map nD) ([], []) Sto.nil with | .ok a S' => R.ok (D.dct a.1 a.2) S' | _ => .bad) = _
    have z := dcS_set (turn := dcT (gN 8) tYs (eVar 8) (eC (.bl true)) (wipeE ρ [8])) (S := Sto.nil) (fun c => by
      have : ((wipeE ρ [8]).set 8 (some (nD c)))[8]? = some (some (nD c)) := by
        rw [List.getElem?_set_self]
        simp [wipeE, h9]
      simp only [dcT, gN, tYs, eVar, R.bind, this, eC, if_true]) l [] (by simpa using hn) (by simpa using hk)
    rw [List.nil_append] at z
    have z : dcS _ (l.map nD) ([], []) Sto.nil = _ := z
    rw [z]
    rfl
  have key := forS_inv (emb := cpD) (turn := turnS (gT 2 (gsCons (gN 6) (gsCons (gN 7) gsNil))) (sIf (tOr_ (tAn (toB (eOp oIn (eVar 6) (eVar 4))) (toB (eOp oIn (eVar 7) (eVar 5)))) (tAn (toB (eOp oIn (eVar 7) (eVar 4))) (toB (eOp oIn (eVar 6) (eVar 5))))) (sE (eMt tyL oAppend (eVar 3) (aCons (eTup (aCons (eVar 6) (aCons (eVar 7) aNil))) aNil))) sNx))
    (fun done ρ S => (∃ r6 r7, ρ = [some (mpD m), some (cellsD l1), some (cellsD l2), some (.ref 0), some (setD l1), some (setD l2), r6, r7, none]) ∧ S = st1 ((done.filter (meets l1 l2)).map cpD)) m.seams [some (mpD m), some (cellsD l1), some (cellsD l2), some (.ref 0), some (setD l1), some (setD l2), none, none, none] (st1 []) ?_ ⟨⟨none, none, rfl⟩, rfl⟩
  · obtain ⟨ρ', S', e, ⟨r6, r7, eρ⟩, eS⟩ := key
    refine fnA_ok (S1 := S') (by simp [nrfs, mp_nrf, cells_nrf]) ?_ (seams_nrf _)
    refine fn_rt ?_
    unfold m_seams_between
    refine sq_nx (st_e (d := .non) (S' := Sto.nil) (by simp only [fnS, env0, sSeq, sSet, sRet, sRetN, sIf, sE, sAsg, sPar, sNx, sPut, R.toS, R.bind, eVar, eC, eOp, eTup, eLst, eLstR, aCons, aNil, eIf, eAn, eOr, eNt, eIsi, toB, tNt, tAn, tOr_, tYs, eCall, eCall0, eB, eMt, eMt0, iSrc, iRg1, iRg2, iEn, iZp, gN, gT, gsCons, gsNil, turnS, List.map_cons, List.map_nil, List.length_cons, List.length_nil, List.replicate, List.cons_append, List.nil_append, List.getElem?_cons_zero, List.getElem?_cons_succ, List.set_cons_zero, List.set_cons_succ, Nat.sub_self, Nat.reduceSub, Nat.reduceAdd, if_true, Bool.false_eq_true, if_false, ite_true, ite_false, List.cons.injEq, and_false, false_and, true_and, and_true, decide_false, decide_true, Bool.not_true, Bool.not_false, Bool.true_and, Bool.false_and, Bool.and_true, Bool.and_false, Bool.or_false, Bool.or_true, Bool.false_or, Bool.true_or, Nat.reduceEqDiff, reduceCtorEq, eSl, pSome, pNone, lcT, wipeE, fits_0, fits_1, fits_2, fits_3, fits_4, p_check_cells k1 h1])) ?_
    refine sq_nx (st_e (d := .non) (S' := Sto.nil) (by simp only [fnS, env0, sSeq, sSet, sRet, sRetN, sIf, sE, sAsg, sPar, sNx, sPut, R.toS, R.bind, eVar, eC, eOp, eTup, eLst, eLstR, aCons, aNil, eIf, eAn, eOr, eNt, eIsi, toB, tNt, tAn, tOr_, tYs, eCall, eCall0, eB, eMt, eMt0, iSrc, iRg1, iRg2, iEn, iZp, gN, gT, gsCons, gsNil, turnS, List.map_cons, List.map_nil, List.length_cons, List.length_nil, List.replicate, List.cons_append, List.nil_append, List.getElem?_cons_zero, List.getElem?_cons_succ, List.set_cons_zero, List.set_cons_succ, Nat.sub_self, Nat.reduceSub, Nat.reduceAdd, if_true, Bool.false_eq_true, if_false, ite_true, ite_false, List.cons.injEq, and_false, false_and, true_and, and_true, decide_false, decide_true, Bool.not_true, Bool.not_false, Bool.true_and, Bool.false_and, Bool.and_true, Bool.and_false, Bool.or_false, Bool.or_true, Bool.false_or, Bool.true_or, Nat.reduceEqDiff, reduceCtorEq, eSl, pSome, pNone, lcT, wipeE, fits_0, fits_1, fits_2, fits_3, fits_4, p_check_cells k2 h2])) ?_
    refine sq_nx (ρ' := [some (mpD m), some (cellsD l1), some (cellsD l2), none, some (setD l1), some (setD l2), none, none, none]) (S' := Sto.nil) ?_ ?_
    · have a1 := ed 1 l1 [some (mpD m), some (cellsD l1), some (cellsD l2), none, none, none, none, none, none] n1 k1 rfl rfl
      have a2 := ed 2 l2 [some (mpD m), some (cellsD l1), some (cellsD l2), none, none, none, none, none, none] n2 k2 rfl rfl
      show sPar 4 5 _ [some (mpD m), some (cellsD l1), some (cellsD l2), none, none, none, none, none, none] Sto.nil = _
      revert a1 a2
      generalize eDc _ _ _ _ _ _ = E1
      generalize eDc _ _ _ _ _ _ = E2
      intro a1 a2
      simp only [fnS, env0, sSeq, sSet, sRet, sRetN, sIf, sE, sAsg, sPar, sNx, sPut, R.toS, R.bind, eVar, eC, eOp, eTup, eLst, eLstR, aCons, aNil, eIf, eAn, eOr, eNt, eIsi, toB, tNt, tAn, tOr_, tYs, eCall, eCall0, eB, eMt, eMt0, iSrc, iRg1, iRg2, iEn, iZp, gN, gT, gsCons, gsNil, turnS, List.map_cons, List.map_nil, List.length_cons, List.length_nil, List.replicate, List.cons_append, List.nil_append, List.getElem?_cons_zero, List.getElem?_cons_succ, List.set_cons_zero, List.set_cons_succ, Nat.sub_self, Nat.reduceSub, Nat.reduceAdd, if_true, Bool.false_eq_true, if_false, ite_true, ite_false, List.cons.injEq, and_false, false_and, true_and, and_true, decide_false, decide_true, Bool.not_true, Bool.not_false, Bool.true_and, Bool.false_and, Bool.and_true, Bool.and_false, Bool.or_false, Bool.or_true, Bool.false_or, Bool.true_or, Nat.reduceEqDiff, reduceCtorEq, eSl, pSome, pNone, lcT, wipeE, fits_0, fits_1, fits_2, fits_3, fits_4, a1, a2]
    refine sq_nx (st_set (d := .ref 0) (S' := st1 []) rfl) ?_
    refine sq_nx (st_for (ds := m.seams.map cpD) (by simp only [fnS, env0, sSeq, sSet, sRet, sRetN, sIf, sE, sAsg, sPar, sNx, sPut, R.toS, R.bind, eVar, eC, eOp, eTup, eLst, eLstR, aCons, aNil, eIf, eAn, eOr, eNt, eIsi, toB, tNt, tAn, tOr_, tYs, eCall, eCall0, eB, eMt, eMt0, iSrc, iRg1, iRg2, iEn, iZp, gN, gT, gsCons, gsNil, turnS, List.map_cons, List.map_nil, List.length_cons, List.length_nil, List.replicate, List.cons_append, List.nil_append, List.getElem?_cons_zero, List.getElem?_cons_succ, List.set_cons_zero, List.set_cons_succ, Nat.sub_self, Nat.reduceSub, Nat.reduceAdd, if_true, Bool.false_eq_true, if_false, ite_true, ite_false, List.cons.injEq, and_false, false_and, true_and, and_true, decide_false, decide_true, Bool.not_true, Bool.not_false, Bool.true_and, Bool.false_and, Bool.and_true, Bool.and_false, Bool.or_false, Bool.or_true, Bool.false_or, Bool.true_or, Nat.reduceEqDiff, reduceCtorEq, eSl, pSome, pNone, lcT, wipeE, fits_0, fits_1, fits_2, fits_3, fits_4, mpD, z_t1, srcOf]) e) ?_
    refine st_ret ?_
    subst eρ eS
    rfl
  · rintro done x rest ρ S hw ⟨⟨r6, r7, rfl⟩, rfl⟩
    have hlen : (done.filter (meets l1 l2)).length ≤ 1000 := by
      have := List.length_filter_le (meets l1 l2) done
      have : (done ++ x :: rest).length ≤ 1000 := by rw [hw]; exact hl
      simp at this
      omega
    refine ⟨[some (mpD m), some (cellsD l1), some (cellsD l2), some (.ref 0), some (setD l1), some (setD l2), some (nD x.1), some (nD x.2), none], st1 (((done ++ [x]).filter (meets l1 l2)).map cpD), ?_, ⟨_, _, rfl⟩, rfl⟩
    have e : ((done ++ [x]).filter (meets l1 l2)).map cpD = (done.filter (meets l1 l2)).map cpD ++ if meets l1 l2 x = true then [cpD x] else [] := by
      rw [List.filter_append, List.map_append]
      congr 1
      by_cases h : meets l1 l2 x = true
      · rw [if_pos h, List.filter_cons_of_pos h]; rfl
      · rw [if_neg h, List.filter_cons_of_neg h]; rfl
    have h0 : ((done.filter (meets l1 l2)).map cpD).length + 1 ≤ 16777216 := by rw [List.length_map]; omega
    rw [e, show meets l1 l2 x = ((l1.contains x.1 && l2.contains x.2) || (l1.contains x.2 && l2.contains x.1)) from rfl]
    generalize (done.filter (meets l1 l2)).map cpD = acc at h0 ⊢
    have e1 : oAppend (.ref 0) [.tup [nD x.1, nD x.2]] (st1 acc) = .ok .non (st1 (acc ++ [.tup [nD x.1, nD x.2]])) := app_1 (by simpa using h0)
    simp only [turnS, gT, cpD, rd, fnS, env0, sSeq, sSet, sRet, sRetN, sIf, sE, sAsg, sPar, sNx, sPut, R.toS, R.bind, eVar, eC, eOp, eTup, eLst, eLstR, aCons, aNil, eIf, eAn, eOr, eNt, eIsi, toB, tNt, tAn, tOr_, tYs, eCall, eCall0, eB, eMt, eMt0, iSrc, iRg1, iRg2, iEn, iZp, gN, gT, gsCons, gsNil, turnS, List.map_cons, List.map_nil, List.length_cons, List.length_nil, List.replicate, List.cons_append, List.nil_append, List.getElem?_cons_zero, List.getElem?_cons_succ, List.set_cons_zero, List.set_cons_succ, Nat.sub_self, Nat.reduceSub, Nat.reduceAdd, if_true, Bool.false_eq_true, if_false, ite_true, ite_false, List.cons.injEq, and_false, false_and, true_and, and_true, decide_false, decide_true, Bool.not_true, Bool.not_false, Bool.true_and, Bool.false_and, Bool.and_true, Bool.and_false, Bool.or_false, Bool.or_true, Bool.false_or, Bool.true_or, Nat.reduceEqDiff, reduceCtorEq, eSl, pSome, pNone, lcT, wipeE, fits_0, fits_1, fits_2, fits_3, fits_4, z_inSet, show ∀ l, tyL (.ref 0) (st1 l) = true from fun _ => rfl, show fits 2 = true from rfl]
    cases l1.contains x.1 <;> cases l2.contains x.2 <;> cases l1.contains x.2 <;> cases l2.contains x.1 <;> simp only [fnS, env0, sSeq, sSet, sRet, sRetN, sIf, sE, sAsg, sPar, sNx, sPut, R.toS, R.bind, eVar, eC, eOp, eTup, eLst, eLstR, aCons, aNil, eIf, eAn, eOr, eNt, eIsi, toB, tNt, tAn, tOr_, tYs, eCall, eCall0, eB, eMt, eMt0, iSrc, iRg1, iRg2, iEn, iZp, gN, gT, gsCons, gsNil, turnS, List.map_cons, List.map_nil, List.length_cons, List.length_nil, List.replicate, List.cons_append, List.nil_append, List.getElem?_cons_zero, List.getElem?_cons_succ, List.set_cons_zero, List.set_cons_succ, Nat.sub_self, Nat.reduceSub, Nat.reduceAdd, if_true, Bool.false_eq_true, if_false, ite_true, ite_false, List.cons.injEq, and_false, false_and, true_and, and_true, decide_false, decide_true, Bool.not_true, Bool.not_false, Bool.true_and, Bool.false_and, Bool.and_true, Bool.and_false, Bool.or_false, Bool.or_true, Bool.false_or, Bool.true_or, Nat.reduceEqDiff, reduceCtorEq, eSl, pSome, pNone, lcT, wipeE, fits_0, fits_1, fits_2, fits_3, fits_4, e1, List.append_nil, show ∀ l, tyL (.ref 0) (st1 l) = true from fun _ => rfl]
theorem cells_lt {m : Mp} {t : Tm} : ∀ c ∈ cellsOf m t, c < m.n := fun c h => List.mem_range.mp (List.mem_filter.mp h).1
theorem cells_nodup {m : Mp} {t : Tm} : (cellsOf m t).Nodup := List.Nodup.sublist List.filter_sublist List.nodup_range
theorem cells_len {m : Mp} (hm : m.Ok) {t : Tm} : (cellsOf m t).length ≤ 1000 := by
  have := List.length_filter_le (inT m t) (List.range m.n)
  rw [List.length_range] at this
  have := hm.n
  show ((List.range m.n).filter (inT m t)).length ≤ 1000
  omega
end Zk24

namespace Zk24
open PySem PySem.Spec PyProof PyProof.Rows L2 Z
def Ws.ts : Ws → List Tm
  | .one _ t => [t]
  | .two _ t u => [t, u]
def Ws.Ok2 : Ws → Prop
  | .one _ t => t.Ok2
  | .two _ t u => t.Ok2 ∧ u.Ok2
theorem Ws.Ok2.ok {w : Ws} (h : w.Ok2) : w.Ok := by
  cases w with
  | one g t => exact Tm.Ok2.ok h
  | two g t u => exact ⟨Tm.Ok2.ok h.1, Tm.Ok2.ok h.2⟩
theorem Ws.Ok2.ts {w : Ws} (h : w.Ok2) : ∀ t ∈ w.ts, t.Ok2 := by
  cases w with
  | one g t => intro u hu; rw [Ws.ts, List.mem_singleton] at hu; subst hu; exact h
  | two g t u =>
    intro v hv
    rcases List.mem_cons.mp hv with e | e
    · subst e; exact h.1
    · rw [List.mem_singleton] at e; subst e; exact h.2
theorem ws_sl (w : Ws) (S : Sto) : oSl (wsD w) (some 1) none S = .ok (.tup (w.ts.map tmD)) S := by cases w <;> exact z_sl1
def hdD : List D → D
  | [] => .non
  | d :: _ => d
theorem p_terms {m : Mp} {w : Ws} (hm : m.Ok) (hw : w.Ok2) (x2 x3 : Option D) : eLc [4] (iSrc (eSl (eVar 1) (pSome (eC (.int 1))) pNone)) (gN 4) tYs (eCall 2 f_cells_of (aCons (eVar 0) (aCons (eVar 4) aNil))) [some (mpD m), some (wsD w), x2, x3, none] Sto.nil = .ok (.lst (w.ts.map fun t => cellsD (cellsOf m t))) Sto.nil := by
  refine eLc_m (emb := tmD) (xs := w.ts) ?_ (fun t ht => ?_) (by cases w <;> simp [Ws.ts])
  · simp only [fnS, env0, sSeq, sSet, sRet, sRetN, sIf, sE, sAsg, sPar, sNx, sPut, R.toS, R.bind, eVar, eC, eOp, eTup, eLst, eLstR, aCons, aNil, eIf, eAn, eOr, eNt, eIsi, toB, tNt, tAn, tOr_, tYs, eCall, eCall0, eB, eMt, eMt0, iSrc, iRg1, iRg2, iEn, iZp, gN, gT, gsCons, gsNil, turnS, List.map_cons, List.map_nil, List.length_cons, List.length_nil, List.replicate, List.cons_append, List.nil_append, List.getElem?_cons_zero, List.getElem?_cons_succ, List.set_cons_zero, List.set_cons_succ, Nat.sub_self, Nat.reduceSub, Nat.reduceAdd, if_true, Bool.false_eq_true, if_false, ite_true, ite_false, List.cons.injEq, and_false, false_and, true_and, and_true, decide_false, decide_true, Bool.not_true, Bool.not_false, Bool.true_and, Bool.false_and, Bool.and_true, Bool.and_false, Bool.or_false, Bool.or_true, Bool.false_or, Bool.true_or, Nat.reduceEqDiff, reduceCtorEq, eSl, pSome, pNone, lcT, wipeE, fits_0, fits_1, fits_2, fits_3, fits_4, ws_sl, srcOf]
  · simp only [fnS, env0, sSeq, sSet, sRet, sRetN, sIf, sE, sAsg, sPar, sNx, sPut, R.toS, R.bind, eVar, eC, eOp, eTup, eLst, eLstR, aCons, aNil, eIf, eAn, eOr, eNt, eIsi, toB, tNt, tAn, tOr_, tYs, eCall, eCall0, eB, eMt, eMt0, iSrc, iRg1, iRg2, iEn, iZp, gN, gT, gsCons, gsNil, turnS, List.map_cons, List.map_nil, List.length_cons, List.length_nil, List.replicate, List.cons_append, List.nil_append, List.getElem?_cons_zero, List.getElem?_cons_succ, List.set_cons_zero, List.set_cons_succ, Nat.sub_self, Nat.reduceSub, Nat.reduceAdd, if_true, Bool.false_eq_true, if_false, ite_true, ite_false, List.cons.injEq, and_false, false_and, true_and, and_true, decide_false, decide_true, Bool.not_true, Bool.not_false, Bool.true_and, Bool.false_and, Bool.and_true, Bool.and_false, Bool.or_false, Bool.or_true, Bool.false_or, Bool.true_or, Nat.reduceEqDiff, reduceCtorEq, eSl, pSome, pNone, lcT, wipeE, fits_0, fits_1, fits_2, fits_3, fits_4, p_cells_of hm (hw.ts t ht)]
theorem z_neTn {ds : List D} {S : Sto} (h : shp 60 (.tup ds) = true) : oNe (.tup ds) (.tup []) S = .ok (.bl (!ds.isEmpty)) S := by
  show (if shp 60 (.tup ds) = true ∧ shp 60 (.tup []) = true then R.ok (D.bl (!eqv (.tup ds) (.tup []))) S else .bad) = _
  rw [if_pos ⟨h, rfl⟩]
  cases ds <;> rfl
theorem p_shown_by {m : Mp} {w : Ws} (hm : m.Ok) (hw : w.Ok2) (S : Sto) : f_shown_by [mpD m, wsD w] S = .ok (hdD (shownL m w)) S := by
  have hs := shownL_shp m w
  have hn := shownL_nrf m w
  have hr : nrf (hdD (shownL m w)) = true := by
    revert hn
    cases shownL m w with
    | nil => intro _; rfl
    | cons d ds => intro h; exact (Bool.and_eq_true_iff.mp (show (nrf d && nrfs ds) = true by simpa [nrfs] using h)).1
  refine fnA_ok (S1 := Sto.nil) (by simp [nrfs, mp_nrf, ws_nrf]) ?_ hr
  refine fn_rt ?_
  unfold m_shown_by
  have fin : ∀ (x : Option D) (y : Option D), sRet (eIf (toB (eOp oNe (eVar 3) (eTup aNil))) (eOp oIx (eVar 3) (eC (.int 0))) (eC .non)) [some (mpD m), some (wsD w), x, some (.tup (shownL m w)), y] Sto.nil = .rt (hdD (shownL m w)) Sto.nil := by
    intro x y
    refine st_ret ?_
    simp only [fnS, env0, sSeq, sSet, sRet, sRetN, sIf, sE, sAsg, sPar, sNx, sPut, R.toS, R.bind, eVar, eC, eOp, eTup, eLst, eLstR, aCons, aNil, eIf, eAn, eOr, eNt, eIsi, toB, tNt, tAn, tOr_, tYs, eCall, eCall0, eB, eMt, eMt0, iSrc, iRg1, iRg2, iEn, iZp, gN, gT, gsCons, gsNil, turnS, List.map_cons, List.map_nil, List.length_cons, List.length_nil, List.replicate, List.cons_append, List.nil_append, List.getElem?_cons_zero, List.getElem?_cons_succ, List.set_cons_zero, List.set_cons_succ, Nat.sub_self, Nat.reduceSub, Nat.reduceAdd, if_true, Bool.false_eq_true, if_false, ite_true, ite_false, List.cons.injEq, and_false, false_and, true_and, and_true, decide_false, decide_true, Bool.not_true, Bool.not_false, Bool.true_and, Bool.false_and, Bool.and_true, Bool.and_false, Bool.or_false, Bool.or_true, Bool.false_or, Bool.true_or, Nat.reduceEqDiff, reduceCtorEq, eSl, pSome, pNone, lcT, wipeE, fits_0, fits_1, fits_2, fits_3, fits_4, show fits 0 = true from rfl, z_neTn hs]
    cases shownL m w with
    | nil => rfl
    | cons d ds => simp only [List.isEmpty_cons, Bool.not_false, if_true, z_t0, hdD]
  refine sq_nx (st_set (p_terms hm hw _ _)) ?_
  refine sq_nx (st_set (d := .tup (shownL m w)) (S' := Sto.nil) ?_) (fin _ _)
  cases w with
  | one g t =>
    simp only [fnS, env0, sSeq, sSet, sRet, sRetN, sIf, sE, sAsg, sPar, sNx, sPut, R.toS, R.bind, eVar, eC, eOp, eTup, eLst, eLstR, aCons, aNil, eIf, eAn, eOr, eNt, eIsi, toB, tNt, tAn, tOr_, tYs, eCall, eCall0, eB, eMt, eMt0, iSrc, iRg1, iRg2, iEn, iZp, gN, gT, gsCons, gsNil, turnS, List.map_cons, List.map_nil, List.length_cons, List.length_nil, List.replicate, List.cons_append, List.nil_append, List.getElem?_cons_zero, List.getElem?_cons_succ, List.set_cons_zero, List.set_cons_succ, Nat.sub_self, Nat.reduceSub, Nat.reduceAdd, if_true, Bool.false_eq_true, if_false, ite_true, ite_false, List.cons.injEq, and_false, false_and, true_and, and_true, decide_false, decide_true, Bool.not_true, Bool.not_false, Bool.true_and, Bool.false_and, Bool.and_true, Bool.and_false, Bool.or_false, Bool.or_true, Bool.false_or, Bool.true_or, Nat.reduceEqDiff, reduceCtorEq, eSl, pSome, pNone, lcT, wipeE, fits_0, fits_1, fits_2, fits_3, fits_4, Ws.ts, z_lenL, z_eqi, z_l0, shownL, cellsD, show ((0 + 1 : Nat) : Int) = 1 from rfl]
  | two g t u =>
    simp only [fnS, env0, sSeq, sSet, sRet, sRetN, sIf, sE, sAsg, sPar, sNx, sPut, R.toS, R.bind, eVar, eC, eOp, eTup, eLst, eLstR, aCons, aNil, eIf, eAn, eOr, eNt, eIsi, toB, tNt, tAn, tOr_, tYs, eCall, eCall0, eB, eMt, eMt0, iSrc, iRg1, iRg2, iEn, iZp, gN, gT, gsCons, gsNil, turnS, List.map_cons, List.map_nil, List.length_cons, List.length_nil, List.replicate, List.cons_append, List.nil_append, List.getElem?_cons_zero, List.getElem?_cons_succ, List.set_cons_zero, List.set_cons_succ, Nat.sub_self, Nat.reduceSub, Nat.reduceAdd, if_true, Bool.false_eq_true, if_false, ite_true, ite_false, List.cons.injEq, and_false, false_and, true_and, and_true, decide_false, decide_true, Bool.not_true, Bool.not_false, Bool.true_and, Bool.false_and, Bool.and_true, Bool.and_false, Bool.or_false, Bool.or_true, Bool.false_or, Bool.true_or, Nat.reduceEqDiff, reduceCtorEq, eSl, pSome, pNone, lcT, wipeE, fits_0, fits_1, fits_2, fits_3, fits_4, Ws.ts, z_lenL, z_eqi, z_l0, z_l1, shownL, show ¬ (((0 + 1 + 1 : Nat) : Int) = 1) by decide, p_seams_between hm cells_lt cells_lt cells_nodup cells_nodup (cells_len hm) (cells_len hm), seamsD]
theorem asks_ws (w : Ws) (S : Sto) : f_asks [wsD w] S = .ok (.bl (!w.neg)) S := by
  cases w with
  | one g t =>
    refine (p_asks (w := w1 g) (ds := [tmD t]) (by cases g <;> rfl) (by simp [nrfs, tm_nrf])).trans ?_
    cases g <;> rfl
  | two g t u =>
    refine (p_asks (w := w2 g) (ds := [tmD t, tmD u]) (by cases g <;> rfl) (by simp [nrfs, tm_nrf])).trans ?_
    cases g <;> rfl
theorem is_hd (m : Mp) (w : Ws) (S : Sto) : oIs (hdD (shownL m w)) .non S = .ok (.bl (shownL m w).isEmpty) S := by
  cases w with
  | one g t => show oIs (hdD ((cellsOf m t).map nD)) .non S = .ok (.bl ((cellsOf m t).map nD).isEmpty) S; cases cellsOf m t <;> rfl
  | two g t u => show oIs (hdD ((seamsOf m (cellsOf m t) (cellsOf m u)).map cpD)) .non S = .ok (.bl ((seamsOf m (cellsOf m t) (cellsOf m u)).map cpD).isEmpty) S; cases seamsOf m (cellsOf m t) (cellsOf m u) <;> rfl
theorem z_neB {a b : Bool} {S : Sto} : oNe (.bl a) (.bl b) S = .ok (.bl (a != b)) S := by cases a <;> cases b <;> rfl
theorem p_keeps {m : Mp} {w : Ws} (hm : m.Ok) (hw : w.Ok2) (S : Sto) : f_keeps [mpD m, wsD w] S = .ok (.bl (kept m w)) S := by
  refine fnA_ok (S1 := Sto.nil) (by simp [nrfs, mp_nrf, ws_nrf]) ?_ rfl
  refine fn_rt (st_ret ?_)
  simp only [fnS, env0, sSeq, sSet, sRet, sRetN, sIf, sE, sAsg, sPar, sNx, sPut, R.toS, R.bind, eVar, eC, eOp, eTup, eLst, eLstR, aCons, aNil, eIf, eAn, eOr, eNt, eIsi, toB, tNt, tAn, tOr_, tYs, eCall, eCall0, eB, eMt, eMt0, iSrc, iRg1, iRg2, iEn, iZp, gN, gT, gsCons, gsNil, turnS, List.map_cons, List.map_nil, List.length_cons, List.length_nil, List.replicate, List.cons_append, List.nil_append, List.getElem?_cons_zero, List.getElem?_cons_succ, List.set_cons_zero, List.set_cons_succ, Nat.sub_self, Nat.reduceSub, Nat.reduceAdd, if_true, Bool.false_eq_true, if_false, ite_true, ite_false, List.cons.injEq, and_false, false_and, true_and, and_true, decide_false, decide_true, Bool.not_true, Bool.not_false, Bool.true_and, Bool.false_and, Bool.and_true, Bool.and_false, Bool.or_false, Bool.or_true, Bool.false_or, Bool.true_or, Nat.reduceEqDiff, reduceCtorEq, eSl, pSome, pNone, lcT, wipeE, fits_0, fits_1, fits_2, fits_3, fits_4, p_shown_by hm hw, is_hd, asks_ws, z_neB]
  congr 2
  unfold kept has
  cases (shownL m w).isEmpty <;> cases w.neg <;> rfl
def brokenL (m : Mp) (ws : List Ws) : List (Int × Ws) := (numL 0 ws).filter fun q => !kept m q.2
def brokenD (m : Mp) (ws : List Ws) : List D := (brokenL m ws).map fun q => .int q.1
theorem p_all_broken {m : Mp} {ws : List Ws} (hm : m.Ok) (hw : ∀ w ∈ ws, w.Ok2) (hl : ws.length ≤ 1000) (S : Sto) : f_all_broken [mpD m, wsDs ws] S = .ok (.tup (brokenD m ws)) S := by
  refine fnA_ok (S1 := Sto.nil) (by simp [nrfs, mp_nrf, wsDs_nrf]) ?_ (by simp [nrf, brokenD]; exact nrfs_map _ fun _ _ => rfl)
  refine fn_rt (st_ret ?_)
  have e : eLc [2, 3] (iEn (aCons (eVar 1) aNil)) (gT 2 (gsCons (gN 2) (gsCons (gN 3) gsNil))) (tNt (toB (eCall 2 f_keeps (aCons (eVar 0) (aCons (eVar 3) aNil))))) (eVar 2) [some (mpD m), some (wsDs ws), none, none] Sto.nil = .ok (.lst (brokenD m ws)) Sto.nil := by
    refine eLc_f (emb := fun q : Int × Ws => .tup [.int q.1, wsD q.2]) (out := fun q => .int q.1) (fun q => !kept m q.2) (xs := numL 0 ws) ?_ (fun q hq => ?_) (by rw [numL_len]; omega)
    · simp only [fnS, env0, sSeq, sSet, sRet, sRetN, sIf, sE, sAsg, sPar, sNx, sPut, R.toS, R.bind, eVar, eC, eOp, eTup, eLst, eLstR, aCons, aNil, eIf, eAn, eOr, eNt, eIsi, toB, tNt, tAn, tOr_, tYs, eCall, eCall0, eB, eMt, eMt0, iSrc, iRg1, iRg2, iEn, iZp, gN, gT, gsCons, gsNil, turnS, List.map_cons, List.map_nil, List.length_cons, List.length_nil, List.replicate, List.cons_append, List.nil_append, List.getElem?_cons_zero, List.getElem?_cons_succ, List.set_cons_zero, List.set_cons_succ, Nat.sub_self, Nat.reduceSub, Nat.reduceAdd, if_true, Bool.false_eq_true, if_false, ite_true, ite_false, List.cons.injEq, and_false, false_and, true_and, and_true, decide_false, decide_true, Bool.not_true, Bool.not_false, Bool.true_and, Bool.false_and, Bool.and_true, Bool.and_false, Bool.or_false, Bool.or_true, Bool.false_or, Bool.true_or, Nat.reduceEqDiff, reduceCtorEq, eSl, pSome, pNone, lcT, wipeE, fits_0, fits_1, fits_2, fits_3, fits_4, wsDs, srcOf, lkE, numb_map]
    · simp only [gT, rd, fnS, env0, sSeq, sSet, sRet, sRetN, sIf, sE, sAsg, sPar, sNx, sPut, R.toS, R.bind, eVar, eC, eOp, eTup, eLst, eLstR, aCons, aNil, eIf, eAn, eOr, eNt, eIsi, toB, tNt, tAn, tOr_, tYs, eCall, eCall0, eB, eMt, eMt0, iSrc, iRg1, iRg2, iEn, iZp, gN, gT, gsCons, gsNil, turnS, List.map_cons, List.map_nil, List.length_cons, List.length_nil, List.replicate, List.cons_append, List.nil_append, List.getElem?_cons_zero, List.getElem?_cons_succ, List.set_cons_zero, List.set_cons_succ, Nat.sub_self, Nat.reduceSub, Nat.reduceAdd, if_true, Bool.false_eq_true, if_false, ite_true, ite_false, List.cons.injEq, and_false, false_and, true_and, and_true, decide_false, decide_true, Bool.not_true, Bool.not_false, Bool.true_and, Bool.false_and, Bool.and_true, Bool.and_false, Bool.or_false, Bool.or_true, Bool.false_or, Bool.true_or, Nat.reduceEqDiff, reduceCtorEq, eSl, pSome, pNone, lcT, wipeE, fits_0, fits_1, fits_2, fits_3, fits_4, p_keeps hm (hw _ (numL_mem hq))]
      exact ite_ok
  show (eB oTuple (aCons _ aNil)) [some (mpD m), some (wsDs ws), none, none] Sto.nil = _
  revert e
  generalize eLc _ _ _ _ _ = E
  intro e
  simp only [fnS, env0, sSeq, sSet, sRet, sRetN, sIf, sE, sAsg, sPar, sNx, sPut, R.toS, R.bind, eVar, eC, eOp, eTup, eLst, eLstR, aCons, aNil, eIf, eAn, eOr, eNt, eIsi, toB, tNt, tAn, tOr_, tYs, eCall, eCall0, eB, eMt, eMt0, iSrc, iRg1, iRg2, iEn, iZp, gN, gT, gsCons, gsNil, turnS, List.map_cons, List.map_nil, List.length_cons, List.length_nil, List.replicate, List.cons_append, List.nil_append, List.getElem?_cons_zero, List.getElem?_cons_succ, List.set_cons_zero, List.set_cons_succ, Nat.sub_self, Nat.reduceSub, Nat.reduceAdd, if_true, Bool.false_eq_true, if_false, ite_true, ite_false, List.cons.injEq, and_false, false_and, true_and, and_true, decide_false, decide_true, Bool.not_true, Bool.not_false, Bool.true_and, Bool.false_and, Bool.and_true, Bool.and_false, Bool.or_false, Bool.or_true, Bool.false_or, Bool.true_or, Nat.reduceEqDiff, reduceCtorEq, eSl, pSome, pNone, lcT, wipeE, fits_0, fits_1, fits_2, fits_3, fits_4, e]
  rfl
theorem numL_get {α : Type} {q : Int × α} : ∀ {xs : List α} {k : Int}, q ∈ numL k xs → ∃ j : Nat, q.1 = k + j ∧ xs[j]? = some q.2
  | x :: xs, k, h => by
    rcases List.mem_cons.mp h with e | h
    · exact ⟨0, by rw [e]; simp, by rw [e]; rfl⟩
    · obtain ⟨j, h1, h2⟩ := numL_get h
      exact ⟨j + 1, by omega, by rw [List.getElem?_cons_succ]; exact h2⟩
theorem brok_any (m : Mp) (i : Int) : ∀ (ws : List Ws) (k : Int), ((numL k ws).filter fun q => !kept m q.2).any (fun q => decide (q.1 = i)) = if k ≤ i then (match ws[(i - k).toNat]? with | some w => !kept m w | none => false) else false
  | [], k => by simp [numL]
  | w :: ws, k => by
    have ih := brok_any m i ws (k + 1)
    rw [numL]
    by_cases h : i = k
    · subst h
      rw [if_neg (by omega)] at ih
      rw [if_pos (by omega), show (i - i).toNat = 0 by omega, List.getElem?_cons_zero]
      cases hk : kept m w with
      | true => rw [List.filter_cons_of_neg (by simp [hk]), ih]; simp [hk]
      | false => rw [List.filter_cons_of_pos (by simp [hk]), List.any_cons]; simp [hk]
    · have e1 : (((k, w) :: numL (k + 1) ws).filter fun q => !kept m q.2).any (fun q => decide (q.1 = i)) = ((numL (k + 1) ws).filter fun q => !kept m q.2).any (fun q => decide (q.1 = i)) := by
        cases hk : kept m w with
        | true => rw [List.filter_cons_of_neg (by simp [hk])]
        | false => rw [List.filter_cons_of_pos (by simp [hk]), List.any_cons, decide_eq_false (by omega), Bool.false_or]
      rw [e1, ih]
      by_cases h2 : k + 1 ≤ i
      · rw [if_pos h2, if_pos (by omega), show (i - k).toNat = (i - (k + 1)).toNat + 1 by omega, List.getElem?_cons_succ]
      · rw [if_neg h2, if_neg (by omega)]
theorem brok_in {m : Mp} {ws : List Ws} {i : Int} (h : 0 ≤ i) : (brokenD m ws).any (fun z => eqv z (.int i)) = match ws[i.toNat]? with | some w => !kept m w | none => false := by
  have := brok_any m i ws 0
  rw [if_pos h, show i - 0 = i by omega] at this
  rw [← this]
  show (List.map _ (brokenL m ws)).any _ = _
  rw [List.any_map]
  unfold brokenL
  congr 1
theorem p_is_couple {d : D} {S : Sto} (h : val d = true) : f_is_couple [d] S = .ok (.bl (isCp d)) S := by
  refine fnA_ok (S1 := Sto.nil) (by simp [nrfs, val_nrf h]) ?_ rfl
  refine fn_rt (st_ret ?_)
  rcases tup_or h with ⟨ds, rfl⟩ | ⟨hn, ht⟩
  · rcases ds with _ | ⟨x, _ | ⟨y, _ | ⟨z, r⟩⟩⟩
    · rfl
    · rfl
    · have hx : val x = true := val_tup h (by simp)
      have hy : val y = true := val_tup h (by simp)
      simp only [fnS, env0, sSeq, sSet, sRet, sRetN, sIf, sE, sAsg, sPar, sNx, sPut, R.toS, R.bind, eVar, eC, eOp, eTup, eLst, eLstR, aCons, aNil, eIf, eAn, eOr, eNt, eIsi, toB, tNt, tAn, tOr_, tYs, eCall, eCall0, eB, eMt, eMt0, iSrc, iRg1, iRg2, iEn, iZp, gN, gT, gsCons, gsNil, turnS, List.map_cons, List.map_nil, List.length_cons, List.length_nil, List.replicate, List.cons_append, List.nil_append, List.getElem?_cons_zero, List.getElem?_cons_succ, List.set_cons_zero, List.set_cons_succ, Nat.sub_self, Nat.reduceSub, Nat.reduceAdd, if_true, Bool.false_eq_true, if_false, ite_true, ite_false, List.cons.injEq, and_false, false_and, true_and, and_true, decide_false, decide_true, Bool.not_true, Bool.not_false, Bool.true_and, Bool.false_and, Bool.and_true, Bool.and_false, Bool.or_false, Bool.or_true, Bool.false_or, Bool.true_or, Nat.reduceEqDiff, reduceCtorEq, eSl, pSome, pNone, lcT, wipeE, fits_0, fits_1, fits_2, fits_3, fits_4, eIsi, tyB, rd, oLen, z_eqi, z_t0, z_t1, p_is_count hx, p_is_count hy, show ((0 + 1 + 1 : Nat) : Int) = 2 from rfl, isCp, z_and]
    · have : ¬ (((r.length + 1 + 1 + 1 : Nat) : Int) = 2) := by omega
      simp only [fnS, env0, sSeq, sSet, sRet, sRetN, sIf, sE, sAsg, sPar, sNx, sPut, R.toS, R.bind, eVar, eC, eOp, eTup, eLst, eLstR, aCons, aNil, eIf, eAn, eOr, eNt, eIsi, toB, tNt, tAn, tOr_, tYs, eCall, eCall0, eB, eMt, eMt0, iSrc, iRg1, iRg2, iEn, iZp, gN, gT, gsCons, gsNil, turnS, List.map_cons, List.map_nil, List.length_cons, List.length_nil, List.replicate, List.cons_append, List.nil_append, List.getElem?_cons_zero, List.getElem?_cons_succ, List.set_cons_zero, List.set_cons_succ, Nat.sub_self, Nat.reduceSub, Nat.reduceAdd, if_true, Bool.false_eq_true, if_false, ite_true, ite_false, List.cons.injEq, and_false, false_and, true_and, and_true, decide_false, decide_true, Bool.not_true, Bool.not_false, Bool.true_and, Bool.false_and, Bool.and_true, Bool.and_false, Bool.or_false, Bool.or_true, Bool.false_or, Bool.true_or, Nat.reduceEqDiff, reduceCtorEq, eSl, pSome, pNone, lcT, wipeE, fits_0, fits_1, fits_2, fits_3, fits_4, eIsi, tyB, rd, oLen, z_eqi, List.length_cons, decide_eq_false this, isCp]
  · simp only [fnS, env0, sSeq, sSet, sRet, sRetN, sIf, sE, sAsg, sPar, sNx, sPut, R.toS, R.bind, eVar, eC, eOp, eTup, eLst, eLstR, aCons, aNil, eIf, eAn, eOr, eNt, eIsi, toB, tNt, tAn, tOr_, tYs, eCall, eCall0, eB, eMt, eMt0, iSrc, iRg1, iRg2, iEn, iZp, gN, gT, gsCons, gsNil, turnS, List.map_cons, List.map_nil, List.length_cons, List.length_nil, List.replicate, List.cons_append, List.nil_append, List.getElem?_cons_zero, List.getElem?_cons_succ, List.set_cons_zero, List.set_cons_succ, Nat.sub_self, Nat.reduceSub, Nat.reduceAdd, if_true, Bool.false_eq_true, if_false, ite_true, ite_false, List.cons.injEq, and_false, false_and, true_and, and_true, decide_false, decide_true, Bool.not_true, Bool.not_false, Bool.true_and, Bool.false_and, Bool.and_true, Bool.and_false, Bool.or_false, Bool.or_true, Bool.false_or, Bool.true_or, Nat.reduceEqDiff, reduceCtorEq, eSl, pSome, pNone, lcT, wipeE, fits_0, fits_1, fits_2, fits_3, fits_4, eIsi, rd_val (val_nrf h), ht]
    unfold isCp
    cases d <;> first | rfl | exact absurd rfl (hn _)
theorem p_is_shown {m : Mp} {w : Ws} {d : D} (hm : m.Ok) (hw : w.Ok2) (h : val d = true) (S : Sto) : f_is_shown [mpD m, wsD w, d] S = .ok (.bl (isShown m w d)) S := by
  refine fnA_ok (S1 := Sto.nil) (by simp [nrfs, mp_nrf, ws_nrf, val_nrf h]) ?_ rfl
  refine fn_rt ?_
  unfold m_is_shown
  have hin : ∀ S, oIn d (.tup (shownL m w)) S = .ok (.bl (inShown m w d)) S := fun S => z_inT (val_nrf h) (val_60 h) (shownL_shp m w)
  refine sq_nx (st_set (p_terms hm hw _ _)) ?_
  cases w with
  | one g t =>
    refine sq_rt (st_ift (S' := Sto.nil) (by simp only [fnS, env0, sSeq, sSet, sRet, sRetN, sIf, sE, sAsg, sPar, sNx, sPut, R.toS, R.bind, eVar, eC, eOp, eTup, eLst, eLstR, aCons, aNil, eIf, eAn, eOr, eNt, eIsi, toB, tNt, tAn, tOr_, tYs, eCall, eCall0, eB, eMt, eMt0, iSrc, iRg1, iRg2, iEn, iZp, gN, gT, gsCons, gsNil, turnS, List.map_cons, List.map_nil, List.length_cons, List.length_nil, List.replicate, List.cons_append, List.nil_append, List.getElem?_cons_zero, List.getElem?_cons_succ, List.set_cons_zero, List.set_cons_succ, Nat.sub_self, Nat.reduceSub, Nat.reduceAdd, if_true, Bool.false_eq_true, if_false, ite_true, ite_false, List.cons.injEq, and_false, false_and, true_and, and_true, decide_false, decide_true, Bool.not_true, Bool.not_false, Bool.true_and, Bool.false_and, Bool.and_true, Bool.and_false, Bool.or_false, Bool.or_true, Bool.false_or, Bool.true_or, Nat.reduceEqDiff, reduceCtorEq, eSl, pSome, pNone, lcT, wipeE, fits_0, fits_1, fits_2, fits_3, fits_4, Ws.ts, z_lenL, z_eqi, show ((0 + 1 : Nat) : Int) = 1 from rfl]) (st_ret ?_))
    simp only [fnS, env0, sSeq, sSet, sRet, sRetN, sIf, sE, sAsg, sPar, sNx, sPut, R.toS, R.bind, eVar, eC, eOp, eTup, eLst, eLstR, aCons, aNil, eIf, eAn, eOr, eNt, eIsi, toB, tNt, tAn, tOr_, tYs, eCall, eCall0, eB, eMt, eMt0, iSrc, iRg1, iRg2, iEn, iZp, gN, gT, gsCons, gsNil, turnS, List.map_cons, List.map_nil, List.length_cons, List.length_nil, List.replicate, List.cons_append, List.nil_append, List.getElem?_cons_zero, List.getElem?_cons_succ, List.set_cons_zero, List.set_cons_succ, Nat.sub_self, Nat.reduceSub, Nat.reduceAdd, if_true, Bool.false_eq_true, if_false, ite_true, ite_false, List.cons.injEq, and_false, false_and, true_and, and_true, decide_false, decide_true, Bool.not_true, Bool.not_false, Bool.true_and, Bool.false_and, Bool.and_true, Bool.and_false, Bool.or_false, Bool.or_true, Bool.false_or, Bool.true_or, Nat.reduceEqDiff, reduceCtorEq, eSl, pSome, pNone, lcT, wipeE, fits_0, fits_1, fits_2, fits_3, fits_4, Ws.ts, z_l0, p_is_count h, show cellsD (cellsOf m t) = .tup (shownL m (.one g t)) from rfl, hin, z_and]
    rfl
  | two g t u =>
    refine sq_nx (st_iff (S' := Sto.nil) (by simp only [fnS, env0, sSeq, sSet, sRet, sRetN, sIf, sE, sAsg, sPar, sNx, sPut, R.toS, R.bind, eVar, eC, eOp, eTup, eLst, eLstR, aCons, aNil, eIf, eAn, eOr, eNt, eIsi, toB, tNt, tAn, tOr_, tYs, eCall, eCall0, eB, eMt, eMt0, iSrc, iRg1, iRg2, iEn, iZp, gN, gT, gsCons, gsNil, turnS, List.map_cons, List.map_nil, List.length_cons, List.length_nil, List.replicate, List.cons_append, List.nil_append, List.getElem?_cons_zero, List.getElem?_cons_succ, List.set_cons_zero, List.set_cons_succ, Nat.sub_self, Nat.reduceSub, Nat.reduceAdd, if_true, Bool.false_eq_true, if_false, ite_true, ite_false, List.cons.injEq, and_false, false_and, true_and, and_true, decide_false, decide_true, Bool.not_true, Bool.not_false, Bool.true_and, Bool.false_and, Bool.and_true, Bool.and_false, Bool.or_false, Bool.or_true, Bool.false_or, Bool.true_or, Nat.reduceEqDiff, reduceCtorEq, eSl, pSome, pNone, lcT, wipeE, fits_0, fits_1, fits_2, fits_3, fits_4, Ws.ts, z_lenL, z_eqi, show ¬ (((0 + 1 + 1 : Nat) : Int) = 1) by decide]) st_nx) (st_ret ?_)
    simp only [fnS, env0, sSeq, sSet, sRet, sRetN, sIf, sE, sAsg, sPar, sNx, sPut, R.toS, R.bind, eVar, eC, eOp, eTup, eLst, eLstR, aCons, aNil, eIf, eAn, eOr, eNt, eIsi, toB, tNt, tAn, tOr_, tYs, eCall, eCall0, eB, eMt, eMt0, iSrc, iRg1, iRg2, iEn, iZp, gN, gT, gsCons, gsNil, turnS, List.map_cons, List.map_nil, List.length_cons, List.length_nil, List.replicate, List.cons_append, List.nil_append, List.getElem?_cons_zero, List.getElem?_cons_succ, List.set_cons_zero, List.set_cons_succ, Nat.sub_self, Nat.reduceSub, Nat.reduceAdd, if_true, Bool.false_eq_true, if_false, ite_true, ite_false, List.cons.injEq, and_false, false_and, true_and, and_true, decide_false, decide_true, Bool.not_true, Bool.not_false, Bool.true_and, Bool.false_and, Bool.and_true, Bool.and_false, Bool.or_false, Bool.or_true, Bool.false_or, Bool.true_or, Nat.reduceEqDiff, reduceCtorEq, eSl, pSome, pNone, lcT, wipeE, fits_0, fits_1, fits_2, fits_3, fits_4, Ws.ts, z_l0, z_l1, p_is_couple h, p_seams_between hm cells_lt cells_lt cells_nodup cells_nodup (cells_len hm) (cells_len hm), show seamsD (seamsOf m (cellsOf m t) (cellsOf m u)) = .tup (shownL m (.two g t u)) from rfl, hin, z_and]
    rfl
theorem p_is_row {m : Mp} {w : Ws} {d : D} (hm : m.Ok) (hw : w.Ok2) (h : val d = true) (S : Sto) : f_is_row [mpD m, wsD w, d] S = .ok (.bl (rowOk m w d)) S := by
  refine fnA_ok (S1 := Sto.nil) (by simp [nrfs, mp_nrf, ws_nrf, val_nrf h]) ?_ rfl
  refine fn_rt ?_
  unfold m_is_row rowOk
  cases hg : w.neg with
  | true =>
    refine sq_nx (st_iff (S' := Sto.nil) (by simp only [fnS, env0, sSeq, sSet, sRet, sRetN, sIf, sE, sAsg, sPar, sNx, sPut, R.toS, R.bind, eVar, eC, eOp, eTup, eLst, eLstR, aCons, aNil, eIf, eAn, eOr, eNt, eIsi, toB, tNt, tAn, tOr_, tYs, eCall, eCall0, eB, eMt, eMt0, iSrc, iRg1, iRg2, iEn, iZp, gN, gT, gsCons, gsNil, turnS, List.map_cons, List.map_nil, List.length_cons, List.length_nil, List.replicate, List.cons_append, List.nil_append, List.getElem?_cons_zero, List.getElem?_cons_succ, List.set_cons_zero, List.set_cons_succ, Nat.sub_self, Nat.reduceSub, Nat.reduceAdd, if_true, Bool.false_eq_true, if_false, ite_true, ite_false, List.cons.injEq, and_false, false_and, true_and, and_true, decide_false, decide_true, Bool.not_true, Bool.not_false, Bool.true_and, Bool.false_and, Bool.and_true, Bool.and_false, Bool.or_false, Bool.or_true, Bool.false_or, Bool.true_or, Nat.reduceEqDiff, reduceCtorEq, eSl, pSome, pNone, lcT, wipeE, fits_0, fits_1, fits_2, fits_3, fits_4, asks_ws, hg]) st_nx) (st_ret ?_)
    simp only [fnS, env0, sSeq, sSet, sRet, sRetN, sIf, sE, sAsg, sPar, sNx, sPut, R.toS, R.bind, eVar, eC, eOp, eTup, eLst, eLstR, aCons, aNil, eIf, eAn, eOr, eNt, eIsi, toB, tNt, tAn, tOr_, tYs, eCall, eCall0, eB, eMt, eMt0, iSrc, iRg1, iRg2, iEn, iZp, gN, gT, gsCons, gsNil, turnS, List.map_cons, List.map_nil, List.length_cons, List.length_nil, List.replicate, List.cons_append, List.nil_append, List.getElem?_cons_zero, List.getElem?_cons_succ, List.set_cons_zero, List.set_cons_succ, Nat.sub_self, Nat.reduceSub, Nat.reduceAdd, if_true, Bool.false_eq_true, if_false, ite_true, ite_false, List.cons.injEq, and_false, false_and, true_and, and_true, decide_false, decide_true, Bool.not_true, Bool.not_false, Bool.true_and, Bool.false_and, Bool.and_true, Bool.and_false, Bool.or_false, Bool.or_true, Bool.false_or, Bool.true_or, Nat.reduceEqDiff, reduceCtorEq, eSl, pSome, pNone, lcT, wipeE, fits_0, fits_1, fits_2, fits_3, fits_4, z_isN h, p_keeps hm hw, z_and]
  | false =>
    refine sq_rt (st_ift (S' := Sto.nil) (by simp only [fnS, env0, sSeq, sSet, sRet, sRetN, sIf, sE, sAsg, sPar, sNx, sPut, R.toS, R.bind, eVar, eC, eOp, eTup, eLst, eLstR, aCons, aNil, eIf, eAn, eOr, eNt, eIsi, toB, tNt, tAn, tOr_, tYs, eCall, eCall0, eB, eMt, eMt0, iSrc, iRg1, iRg2, iEn, iZp, gN, gT, gsCons, gsNil, turnS, List.map_cons, List.map_nil, List.length_cons, List.length_nil, List.replicate, List.cons_append, List.nil_append, List.getElem?_cons_zero, List.getElem?_cons_succ, List.set_cons_zero, List.set_cons_succ, Nat.sub_self, Nat.reduceSub, Nat.reduceAdd, if_true, Bool.false_eq_true, if_false, ite_true, ite_false, List.cons.injEq, and_false, false_and, true_and, and_true, decide_false, decide_true, Bool.not_true, Bool.not_false, Bool.true_and, Bool.false_and, Bool.and_true, Bool.and_false, Bool.or_false, Bool.or_true, Bool.false_or, Bool.true_or, Nat.reduceEqDiff, reduceCtorEq, eSl, pSome, pNone, lcT, wipeE, fits_0, fits_1, fits_2, fits_3, fits_4, asks_ws, hg]) (st_ret ?_))
    simp only [fnS, env0, sSeq, sSet, sRet, sRetN, sIf, sE, sAsg, sPar, sNx, sPut, R.toS, R.bind, eVar, eC, eOp, eTup, eLst, eLstR, aCons, aNil, eIf, eAn, eOr, eNt, eIsi, toB, tNt, tAn, tOr_, tYs, eCall, eCall0, eB, eMt, eMt0, iSrc, iRg1, iRg2, iEn, iZp, gN, gT, gsCons, gsNil, turnS, List.map_cons, List.map_nil, List.length_cons, List.length_nil, List.replicate, List.cons_append, List.nil_append, List.getElem?_cons_zero, List.getElem?_cons_succ, List.set_cons_zero, List.set_cons_succ, Nat.sub_self, Nat.reduceSub, Nat.reduceAdd, if_true, Bool.false_eq_true, if_false, ite_true, ite_false, List.cons.injEq, and_false, false_and, true_and, and_true, decide_false, decide_true, Bool.not_true, Bool.not_false, Bool.true_and, Bool.false_and, Bool.and_true, Bool.and_false, Bool.or_false, Bool.or_true, Bool.false_or, Bool.true_or, Nat.reduceEqDiff, reduceCtorEq, eSl, pSome, pNone, lcT, wipeE, fits_0, fits_1, fits_2, fits_3, fits_4, p_is_shown hm hw h]
def rowD (m : Mp) (w : Ws) : D := if w.neg then .non else hdD (shownL m w)
def dueD (m : Mp) (ws : List Ws) : D := match brokenL m ws with
  | [] => .tup [.str sKept, .tup (ws.map (rowD m))]
  | q :: _ => .tup [.str sBroken, .int q.1, if q.2.neg then hdD (shownL m q.2) else .non]
theorem hd_nrf (m : Mp) (w : Ws) : nrf (hdD (shownL m w)) = true := by
  have hn := shownL_nrf m w
  revert hn
  cases shownL m w with
  | nil => intro _; rfl
  | cons d ds => intro h; exact (Bool.and_eq_true_iff.mp (show (nrf d && nrfs ds) = true by simpa [nrfs] using h)).1
theorem row_nrf (m : Mp) (w : Ws) : nrf (rowD m w) = true := by
  unfold rowD
  cases w.neg
  · exact hd_nrf m w
  · rfl
theorem due_nrf (m : Mp) (ws : List Ws) : nrf (dueD m ws) = true := by
  unfold dueD
  cases brokenL m ws with
  | nil => simp [nrf, nrfs]; exact nrfs_map _ fun w _ => row_nrf m w
  | cons q r => cases hg : q.2.neg <;> simp [nrf, nrfs, hg, hd_nrf]
theorem brokD_shp (m : Mp) (ws : List Ws) : shp 60 (.tup (brokenD m ws)) = true := by
  rw [shp]; exact shps_map _ fun _ _ => by simp [shp]
theorem brok_get {m : Mp} {ws : List Ws} {q : Int × Ws} (h : q ∈ brokenL m ws) (S : Sto) : oIx (wsDs ws) (.int q.1) S = .ok (wsD q.2) S := by
  obtain ⟨j, h1, h2⟩ := numL_get (List.mem_filter.mp h).1
  rw [h1]
  exact z_ixT (by omega) (by rw [show (0 + (j : Int)).toNat = j by omega, List.getElem?_map, h2]; rfl)
theorem p_kept_paper {m : Mp} {ws : List Ws} (hm : m.Ok) (hw : ∀ w ∈ ws, w.Ok2) (hl : ws.length ≤ 1000) (S : Sto) : f_kept_paper [mpD m, wsDs ws] S = .ok (dueD m ws) S := by
  refine fnA_ok (S1 := Sto.nil) (by simp [nrfs, mp_nrf, wsDs_nrf]) ?_ (due_nrf m ws)
  refine fn_rt ?_
  unfold m_kept_paper
  refine sq_nx (st_set (d := .tup (brokenD m ws)) (S' := Sto.nil) (by simp only [fnS, env0, sSeq, sSet, sRet, sRetN, sIf, sE, sAsg, sPar, sNx, sPut, R.toS, R.bind, eVar, eC, eOp, eTup, eLst, eLstR, aCons, aNil, eIf, eAn, eOr, eNt, eIsi, toB, tNt, tAn, tOr_, tYs, eCall, eCall0, eB, eMt, eMt0, iSrc, iRg1, iRg2, iEn, iZp, gN, gT, gsCons, gsNil, turnS, List.map_cons, List.map_nil, List.length_cons, List.length_nil, List.replicate, List.cons_append, List.nil_append, List.getElem?_cons_zero, List.getElem?_cons_succ, List.set_cons_zero, List.set_cons_succ, Nat.sub_self, Nat.reduceSub, Nat.reduceAdd, if_true, Bool.false_eq_true, if_false, ite_true, ite_false, List.cons.injEq, and_false, false_and, true_and, and_true, decide_false, decide_true, Bool.not_true, Bool.not_false, Bool.true_and, Bool.false_and, Bool.and_true, Bool.and_false, Bool.or_false, Bool.or_true, Bool.false_or, Bool.true_or, Nat.reduceEqDiff, reduceCtorEq, eSl, pSome, pNone, lcT, wipeE, fits_0, fits_1, fits_2, fits_3, fits_4, p_all_broken hm hw hl])) ?_
  cases hb : brokenL m ws with
  | nil =>
    have hD : dueD m ws = .tup [.str sKept, .tup (ws.map (rowD m))] := by unfold dueD; rw [hb]
    have hB : brokenD m ws = [] := by unfold brokenD; rw [hb]; rfl
    rw [hD, hB]
    refine sq_nx (st_iff (S' := Sto.nil) rfl st_nx) (st_ret ?_)
    have e : eLc [3] (iSrc (eVar 1)) (gN 3) tYs (eIf (toB (eCall 1 f_asks (aCons (eVar 3) aNil))) (eCall 2 f_shown_by (aCons (eVar 0) (aCons (eVar 3) aNil))) (eC .non)) [some (mpD m), some (wsDs ws), some (.tup []), none] Sto.nil = .ok (.lst (ws.map (rowD m))) Sto.nil := by
      refine eLc_m (emb := wsD) (xs := ws) ?_ (fun w hq => ?_) (by omega)
      · simp only [fnS, env0, sSeq, sSet, sRet, sRetN, sIf, sE, sAsg, sPar, sNx, sPut, R.toS, R.bind, eVar, eC, eOp, eTup, eLst, eLstR, aCons, aNil, eIf, eAn, eOr, eNt, eIsi, toB, tNt, tAn, tOr_, tYs, eCall, eCall0, eB, eMt, eMt0, iSrc, iRg1, iRg2, iEn, iZp, gN, gT, gsCons, gsNil, turnS, List.map_cons, List.map_nil, List.length_cons, List.length_nil, List.replicate, List.cons_append, List.nil_append, List.getElem?_cons_zero, List.getElem?_cons_succ, List.set_cons_zero, List.set_cons_succ, Nat.sub_self, Nat.reduceSub, Nat.reduceAdd, if_true, Bool.false_eq_true, if_false, ite_true, ite_false, List.cons.injEq, and_false, false_and, true_and, and_true, decide_false, decide_true, Bool.not_true, Bool.not_false, Bool.true_and, Bool.false_and, Bool.and_true, Bool.and_false, Bool.or_false, Bool.or_true, Bool.false_or, Bool.true_or, Nat.reduceEqDiff, reduceCtorEq, eSl, pSome, pNone, lcT, wipeE, fits_0, fits_1, fits_2, fits_3, fits_4, wsDs, srcOf]
      · simp only [fnS, env0, sSeq, sSet, sRet, sRetN, sIf, sE, sAsg, sPar, sNx, sPut, R.toS, R.bind, eVar, eC, eOp, eTup, eLst, eLstR, aCons, aNil, eIf, eAn, eOr, eNt, eIsi, toB, tNt, tAn, tOr_, tYs, eCall, eCall0, eB, eMt, eMt0, iSrc, iRg1, iRg2, iEn, iZp, gN, gT, gsCons, gsNil, turnS, List.map_cons, List.map_nil, List.length_cons, List.length_nil, List.replicate, List.cons_append, List.nil_append, List.getElem?_cons_zero, List.getElem?_cons_succ, List.set_cons_zero, List.set_cons_succ, Nat.sub_self, Nat.reduceSub, Nat.reduceAdd, if_true, Bool.false_eq_true, if_false, ite_true, ite_false, List.cons.injEq, and_false, false_and, true_and, and_true, decide_false, decide_true, Bool.not_true, Bool.not_false, Bool.true_and, Bool.false_and, Bool.and_true, Bool.and_false, Bool.or_false, Bool.or_true, Bool.false_or, Bool.true_or, Nat.reduceEqDiff, reduceCtorEq, eSl, pSome, pNone, lcT, wipeE, fits_0, fits_1, fits_2, fits_3, fits_4, asks_ws, p_shown_by hm (hw w hq), rowD]
        cases w.neg <;> rfl
    show (eTup (aCons _ (aCons (eB oTuple (aCons _ aNil)) aNil))) [some (mpD m), some (wsDs ws), some (.tup []), none] Sto.nil = _
    revert e
    generalize eLc _ _ _ _ _ = E
    intro e
    simp only [fnS, env0, sSeq, sSet, sRet, sRetN, sIf, sE, sAsg, sPar, sNx, sPut, R.toS, R.bind, eVar, eC, eOp, eTup, eLst, eLstR, aCons, aNil, eIf, eAn, eOr, eNt, eIsi, toB, tNt, tAn, tOr_, tYs, eCall, eCall0, eB, eMt, eMt0, iSrc, iRg1, iRg2, iEn, iZp, gN, gT, gsCons, gsNil, turnS, List.map_cons, List.map_nil, List.length_cons, List.length_nil, List.replicate, List.cons_append, List.nil_append, List.getElem?_cons_zero, List.getElem?_cons_succ, List.set_cons_zero, List.set_cons_succ, Nat.sub_self, Nat.reduceSub, Nat.reduceAdd, if_true, Bool.false_eq_true, if_false, ite_true, ite_false, List.cons.injEq, and_false, false_and, true_and, and_true, decide_false, decide_true, Bool.not_true, Bool.not_false, Bool.true_and, Bool.false_and, Bool.and_true, Bool.and_false, Bool.or_false, Bool.or_true, Bool.false_or, Bool.true_or, Nat.reduceEqDiff, reduceCtorEq, eSl, pSome, pNone, lcT, wipeE, fits_0, fits_1, fits_2, fits_3, fits_4, e, show fits 2 = true from rfl]
    rfl
  | cons q r =>
    have hD : dueD m ws = .tup [.str sBroken, .int q.1, if q.2.neg then hdD (shownL m q.2) else .non] := by unfold dueD; rw [hb]
    have hB : brokenD m ws = .int q.1 :: r.map fun q => .int q.1 := by unfold brokenD; rw [hb]; rfl
    have hq : q ∈ brokenL m ws := by rw [hb]; exact List.mem_cons_self
    have hwq : q.2.Ok2 := hw _ (numL_mem (List.mem_filter.mp hq).1)
    have hs := brokD_shp m ws
    rw [hD]
    refine sq_rt (st_ift (S' := Sto.nil) ?_ ?_)
    · simp only [fnS, env0, sSeq, sSet, sRet, sRetN, sIf, sE, sAsg, sPar, sNx, sPut, R.toS, R.bind, eVar, eC, eOp, eTup, eLst, eLstR, aCons, aNil, eIf, eAn, eOr, eNt, eIsi, toB, tNt, tAn, tOr_, tYs, eCall, eCall0, eB, eMt, eMt0, iSrc, iRg1, iRg2, iEn, iZp, gN, gT, gsCons, gsNil, turnS, List.map_cons, List.map_nil, List.length_cons, List.length_nil, List.replicate, List.cons_append, List.nil_append, List.getElem?_cons_zero, List.getElem?_cons_succ, List.set_cons_zero, List.set_cons_succ, Nat.sub_self, Nat.reduceSub, Nat.reduceAdd, if_true, Bool.false_eq_true, if_false, ite_true, ite_false, List.cons.injEq, and_false, false_and, true_and, and_true, decide_false, decide_true, Bool.not_true, Bool.not_false, Bool.true_and, Bool.false_and, Bool.and_true, Bool.and_false, Bool.or_false, Bool.or_true, Bool.false_or, Bool.true_or, Nat.reduceEqDiff, reduceCtorEq, eSl, pSome, pNone, lcT, wipeE, fits_0, fits_1, fits_2, fits_3, fits_4, show fits 0 = true from rfl, z_neTn hs]
      rw [hB]; rfl
    · rw [hB]
      refine sq_nx (st_set (d := wsD q.2) (S' := Sto.nil) (by simp only [fnS, env0, sSeq, sSet, sRet, sRetN, sIf, sE, sAsg, sPar, sNx, sPut, R.toS, R.bind, eVar, eC, eOp, eTup, eLst, eLstR, aCons, aNil, eIf, eAn, eOr, eNt, eIsi, toB, tNt, tAn, tOr_, tYs, eCall, eCall0, eB, eMt, eMt0, iSrc, iRg1, iRg2, iEn, iZp, gN, gT, gsCons, gsNil, turnS, List.map_cons, List.map_nil, List.length_cons, List.length_nil, List.replicate, List.cons_append, List.nil_append, List.getElem?_cons_zero, List.getElem?_cons_succ, List.set_cons_zero, List.set_cons_succ, Nat.sub_self, Nat.reduceSub, Nat.reduceAdd, if_true, Bool.false_eq_true, if_false, ite_true, ite_false, List.cons.injEq, and_false, false_and, true_and, and_true, decide_false, decide_true, Bool.not_true, Bool.not_false, Bool.true_and, Bool.false_and, Bool.and_true, Bool.and_false, Bool.or_false, Bool.or_true, Bool.false_or, Bool.true_or, Nat.reduceEqDiff, reduceCtorEq, eSl, pSome, pNone, lcT, wipeE, fits_0, fits_1, fits_2, fits_3, fits_4, z_t0, brok_get hq])) (st_ret ?_)
      simp only [fnS, env0, sSeq, sSet, sRet, sRetN, sIf, sE, sAsg, sPar, sNx, sPut, R.toS, R.bind, eVar, eC, eOp, eTup, eLst, eLstR, aCons, aNil, eIf, eAn, eOr, eNt, eIsi, toB, tNt, tAn, tOr_, tYs, eCall, eCall0, eB, eMt, eMt0, iSrc, iRg1, iRg2, iEn, iZp, gN, gT, gsCons, gsNil, turnS, List.map_cons, List.map_nil, List.length_cons, List.length_nil, List.replicate, List.cons_append, List.nil_append, List.getElem?_cons_zero, List.getElem?_cons_succ, List.set_cons_zero, List.set_cons_succ, Nat.sub_self, Nat.reduceSub, Nat.reduceAdd, if_true, Bool.false_eq_true, if_false, ite_true, ite_false, List.cons.injEq, and_false, false_and, true_and, and_true, decide_false, decide_true, Bool.not_true, Bool.not_false, Bool.true_and, Bool.false_and, Bool.and_true, Bool.and_false, Bool.or_false, Bool.or_true, Bool.false_or, Bool.true_or, Nat.reduceEqDiff, reduceCtorEq, eSl, pSome, pNone, lcT, wipeE, fits_0, fits_1, fits_2, fits_3, fits_4, z_t0, asks_ws, p_shown_by hm hwq, show fits 3 = true from rfl]
      cases q.2.neg <;> rfl
end Zk24

namespace Zk24
open PySem PySem.Spec PyProof PyProof.Rows L2 Z
theorem p_rows {m : Mp} {ws : List Ws} {ds : List D} {x2 x3 x4 x5 : Option D} (hm : m.Ok) (hw : ∀ w ∈ ws, w.Ok2) (hl : ws.length ≤ 1000) (hv : ∀ d ∈ ds, val d = true) (h2 : x2 = some (.tup [.str sKept, .tup ds])) : eLc [4, 5] (iZp (aCons (eVar 1) (aCons (eOp oIx (eVar 2) (eC (.int 1))) aNil))) (gT 2 (gsCons (gN 4) (gsCons (gN 5) gsNil))) tYs (eCall 3 f_is_row (aCons (eVar 0) (aCons (eVar 4) (aCons (eVar 5) aNil)))) [some (mpD m), some (wsDs ws), x2, x3, none, none] Sto.nil = .ok (.lst (((ws.zip ds).map fun p => rowOk m p.1 p.2).map .bl)) Sto.nil := by
  subst h2
  rw [List.map_map]
  refine eLc_m (emb := fun p : Ws × D => .tup [wsD p.1, p.2]) (xs := ws.zip ds) ?_ (fun p hp => ?_) (by rw [List.length_zip]; omega)
  · rw [← pairs_zip]
    rfl
  · have h1 := hw _ (List.of_mem_zip hp).1
    have h2 := hv _ (List.of_mem_zip hp).2
    simp only [gT, rd, fnS, env0, sSeq, sSet, sRet, sRetN, sIf, sE, sAsg, sPar, sNx, sPut, R.toS, R.bind, eVar, eC, eOp, eTup, eLst, eLstR, aCons, aNil, eIf, eAn, eOr, eNt, eIsi, toB, tNt, tAn, tOr_, tYs, eCall, eCall0, eB, eMt, eMt0, iSrc, iRg1, iRg2, iEn, iZp, gN, gT, gsCons, gsNil, turnS, List.map_cons, List.map_nil, List.length_cons, List.length_nil, List.replicate, List.cons_append, List.nil_append, List.getElem?_cons_zero, List.getElem?_cons_succ, List.set_cons_zero, List.set_cons_succ, Nat.sub_self, Nat.reduceSub, Nat.reduceAdd, if_true, Bool.false_eq_true, if_false, ite_true, ite_false, List.cons.injEq, and_false, false_and, true_and, and_true, decide_false, decide_true, Bool.not_true, Bool.not_false, Bool.true_and, Bool.false_and, Bool.and_true, Bool.and_false, Bool.or_false, Bool.or_true, Bool.false_or, Bool.true_or, Nat.reduceEqDiff, reduceCtorEq, eSl, pSome, pNone, lcT, wipeE, fits_0, fits_1, fits_2, fits_3, fits_4, p_is_row hm h1 h2, Function.comp]
theorem p_is_kept_paper {m : Mp} {ws : List Ws} {d : D} (hm : m.Ok) (hw : ∀ w ∈ ws, w.Ok2) (hl : ws.length ≤ 1000) (h : val d = true) (S : Sto) : f_is_kept_paper [mpD m, wsDs ws, d] S = .ok (.bl (isPaper m ws d)) S := by
  refine fnA_ok (S1 := Sto.nil) (by simp [nrfs, mp_nrf, wsDs_nrf, val_nrf h]) ?_ rfl
  refine fn_rt ?_
  unfold m_is_kept_paper
  refine sq_nx (st_set (d := .tup (brokenD m ws)) (S' := Sto.nil) (by simp only [fnS, env0, sSeq, sSet, sRet, sRetN, sIf, sE, sAsg, sPar, sNx, sPut, R.toS, R.bind, eVar, eC, eOp, eTup, eLst, eLstR, aCons, aNil, eIf, eAn, eOr, eNt, eIsi, toB, tNt, tAn, tOr_, tYs, eCall, eCall0, eB, eMt, eMt0, iSrc, iRg1, iRg2, iEn, iZp, gN, gT, gsCons, gsNil, turnS, List.map_cons, List.map_nil, List.length_cons, List.length_nil, List.replicate, List.cons_append, List.nil_append, List.getElem?_cons_zero, List.getElem?_cons_succ, List.set_cons_zero, List.set_cons_succ, Nat.sub_self, Nat.reduceSub, Nat.reduceAdd, if_true, Bool.false_eq_true, if_false, ite_true, ite_false, List.cons.injEq, and_false, false_and, true_and, and_true, decide_false, decide_true, Bool.not_true, Bool.not_false, Bool.true_and, Bool.false_and, Bool.and_true, Bool.and_false, Bool.or_false, Bool.or_true, Bool.false_or, Bool.true_or, Nat.reduceEqDiff, reduceCtorEq, eSl, pSome, pNone, lcT, wipeE, fits_0, fits_1, fits_2, fits_3, fits_4, p_all_broken hm hw hl])) ?_
  rcases tup_or h with ⟨ds, rfl⟩ | ⟨hn, ht⟩
  · rcases ds with _ | ⟨x, r⟩
    · refine sq_rt (st_ift (S' := Sto.nil) rfl (st_ret rfl))
    · have hx : val x = true := val_tup h (by simp)
      have hne : ∀ S, oEq (.tup (x :: r)) (.tup []) S = .ok (.bl false) S := fun S => by
        show (if shp 60 (.tup (x :: r)) = true ∧ shp 60 (.tup []) = true then R.ok (D.bl (eqv (.tup (x :: r)) (.tup []))) S else .bad) = _
        rw [if_pos ⟨val_60 h, rfl⟩]
        rfl
      rcases str_or hx with ⟨s, rfl⟩ | ⟨hn, ht⟩
      · refine sq_nx (st_iff (S' := Sto.nil) ?_ st_nx) ?_
        · simp only [fnS, env0, sSeq, sSet, sRet, sRetN, sIf, sE, sAsg, sPar, sNx, sPut, R.toS, R.bind, eVar, eC, eOp, eTup, eLst, eLstR, aCons, aNil, eIf, eAn, eOr, eNt, eIsi, toB, tNt, tAn, tOr_, tYs, eCall, eCall0, eB, eMt, eMt0, iSrc, iRg1, iRg2, iEn, iZp, gN, gT, gsCons, gsNil, turnS, List.map_cons, List.map_nil, List.length_cons, List.length_nil, List.replicate, List.cons_append, List.nil_append, List.getElem?_cons_zero, List.getElem?_cons_succ, List.set_cons_zero, List.set_cons_succ, Nat.sub_self, Nat.reduceSub, Nat.reduceAdd, if_true, Bool.false_eq_true, if_false, ite_true, ite_false, List.cons.injEq, and_false, false_and, true_and, and_true, decide_false, decide_true, Bool.not_true, Bool.not_false, Bool.true_and, Bool.false_and, Bool.and_true, Bool.and_false, Bool.or_false, Bool.or_true, Bool.false_or, Bool.true_or, Nat.reduceEqDiff, reduceCtorEq, eSl, pSome, pNone, lcT, wipeE, fits_0, fits_1, fits_2, fits_3, fits_4, eIsi, tyB, rd, show fits 0 = true from rfl, hne, z_t0]
        by_cases hk : s = sKept
        · subst hk
          have hk1 : ∀ S, oEq (.str sKept) (.str [107, 101, 112, 116]) S = .ok (.bl true) S := fun _ => rfl
          have hk2 : ∀ S, oNe (.str sKept) (.str [98, 114, 111, 107, 101, 110]) S = .ok (.bl true) S := fun _ => rfl
          rcases r with _ | ⟨y, _ | ⟨z, r⟩⟩
          · refine sq_nx (st_iff (S' := Sto.nil) rfl st_nx) ?_
            exact sq_rt (st_ift (S' := Sto.nil) rfl (st_ret rfl))
          · refine sq_rt (st_ift (S' := Sto.nil) (by simp only [fnS, env0, sSeq, sSet, sRet, sRetN, sIf, sE, sAsg, sPar, sNx, sPut, R.toS, R.bind, eVar, eC, eOp, eTup, eLst, eLstR, aCons, aNil, eIf, eAn, eOr, eNt, eIsi, toB, tNt, tAn, tOr_, tYs, eCall, eCall0, eB, eMt, eMt0, iSrc, iRg1, iRg2, iEn, iZp, gN, gT, gsCons, gsNil, turnS, List.map_cons, List.map_nil, List.length_cons, List.length_nil, List.replicate, List.cons_append, List.nil_append, List.getElem?_cons_zero, List.getElem?_cons_succ, List.set_cons_zero, List.set_cons_succ, Nat.sub_self, Nat.reduceSub, Nat.reduceAdd, if_true, Bool.false_eq_true, if_false, ite_true, ite_false, List.cons.injEq, and_false, false_and, true_and, and_true, decide_false, decide_true, Bool.not_true, Bool.not_false, Bool.true_and, Bool.false_and, Bool.and_true, Bool.and_false, Bool.or_false, Bool.or_true, Bool.false_or, Bool.true_or, Nat.reduceEqDiff, reduceCtorEq, eSl, pSome, pNone, lcT, wipeE, fits_0, fits_1, fits_2, fits_3, fits_4, z_t0, hk1, z_lenT, z_eqi, show ((0 + 1 + 1 : Nat) : Int) = 2 from rfl]) ?_)
            have hy : val y = true := val_tup h (by simp)
            rcases tup_or hy with ⟨ds, rfl⟩ | ⟨hn, ht⟩
            · by_cases hl2 : ds.length = ws.length
              · refine sq_nx (st_iff (S' := Sto.nil) ?_ st_nx) (st_ret ?_)
                · simp only [fnS, env0, sSeq, sSet, sRet, sRetN, sIf, sE, sAsg, sPar, sNx, sPut, R.toS, R.bind, eVar, eC, eOp, eTup, eLst, eLstR, aCons, aNil, eIf, eAn, eOr, eNt, eIsi, toB, tNt, tAn, tOr_, tYs, eCall, eCall0, eB, eMt, eMt0, iSrc, iRg1, iRg2, iEn, iZp, gN, gT, gsCons, gsNil, turnS, List.map_cons, List.map_nil, List.length_cons, List.length_nil, List.replicate, List.cons_append, List.nil_append, List.getElem?_cons_zero, List.getElem?_cons_succ, List.set_cons_zero, List.set_cons_succ, Nat.sub_self, Nat.reduceSub, Nat.reduceAdd, if_true, Bool.false_eq_true, if_false, ite_true, ite_false, List.cons.injEq, and_false, false_and, true_and, and_true, decide_false, decide_true, Bool.not_true, Bool.not_false, Bool.true_and, Bool.false_and, Bool.and_true, Bool.and_false, Bool.or_false, Bool.or_true, Bool.false_or, Bool.true_or, Nat.reduceEqDiff, reduceCtorEq, eSl, pSome, pNone, lcT, wipeE, fits_0, fits_1, fits_2, fits_3, fits_4, eIsi, tyB, rd, oLen, z_nei, z_t0, z_t1, wsDs, List.length_map, hl2]
                have hp : isPaper m ws (.tup [.str sKept, .tup ds]) = (ws.zip ds).all fun p => rowOk m p.1 p.2 := by
                  rw [← rowsOk_zip]
                  show (if sKept = sKept then decide (ds.length = ws.length) && rowsOk m ws ds else false) = _
                  rw [if_pos rfl, decide_eq_true hl2]
                  rfl
                rw [hp]
                have e := p_rows (x2 := some (.tup [.str sKept, .tup ds])) (x3 := some (.tup (brokenD m ws))) (x4 := none) (x5 := none) hm hw hl (fun d hd => val_tup hy hd) rfl
                show (eB oAll (aCons _ aNil)) [some (mpD m), some (wsDs ws), some (.tup [.str sKept, .tup ds]), some (.tup (brokenD m ws)), none, none] Sto.nil = _
                revert e
                generalize eLc _ _ _ _ _ = E
                intro e
                simp only [fnS, env0, sSeq, sSet, sRet, sRetN, sIf, sE, sAsg, sPar, sNx, sPut, R.toS, R.bind, eVar, eC, eOp, eTup, eLst, eLstR, aCons, aNil, eIf, eAn, eOr, eNt, eIsi, toB, tNt, tAn, tOr_, tYs, eCall, eCall0, eB, eMt, eMt0, iSrc, iRg1, iRg2, iEn, iZp, gN, gT, gsCons, gsNil, turnS, List.map_cons, List.map_nil, List.length_cons, List.length_nil, List.replicate, List.cons_append, List.nil_append, List.getElem?_cons_zero, List.getElem?_cons_succ, List.set_cons_zero, List.set_cons_succ, Nat.sub_self, Nat.reduceSub, Nat.reduceAdd, if_true, Bool.false_eq_true, if_false, ite_true, ite_false, List.cons.injEq, and_false, false_and, true_and, and_true, decide_false, decide_true, Bool.not_true, Bool.not_false, Bool.true_and, Bool.false_and, Bool.and_true, Bool.and_false, Bool.or_false, Bool.or_true, Bool.false_or, Bool.true_or, Nat.reduceEqDiff, reduceCtorEq, eSl, pSome, pNone, lcT, wipeE, fits_0, fits_1, fits_2, fits_3, fits_4, e, z_all, List.all_map]
                rfl
              · refine sq_rt (st_ift (S' := Sto.nil) ?_ (st_ret ?_))
                · simp only [fnS, env0, sSeq, sSet, sRet, sRetN, sIf, sE, sAsg, sPar, sNx, sPut, R.toS, R.bind, eVar, eC, eOp, eTup, eLst, eLstR, aCons, aNil, eIf, eAn, eOr, eNt, eIsi, toB, tNt, tAn, tOr_, tYs, eCall, eCall0, eB, eMt, eMt0, iSrc, iRg1, iRg2, iEn, iZp, gN, gT, gsCons, gsNil, turnS, List.map_cons, List.map_nil, List.length_cons, List.length_nil, List.replicate, List.cons_append, List.nil_append, List.getElem?_cons_zero, List.getElem?_cons_succ, List.set_cons_zero, List.set_cons_succ, Nat.sub_self, Nat.reduceSub, Nat.reduceAdd, if_true, Bool.false_eq_true, if_false, ite_true, ite_false, List.cons.injEq, and_false, false_and, true_and, and_true, decide_false, decide_true, Bool.not_true, Bool.not_false, Bool.true_and, Bool.false_and, Bool.and_true, Bool.and_false, Bool.or_false, Bool.or_true, Bool.false_or, Bool.true_or, Nat.reduceEqDiff, reduceCtorEq, eSl, pSome, pNone, lcT, wipeE, fits_0, fits_1, fits_2, fits_3, fits_4, eIsi, tyB, rd, oLen, z_nei, z_t0, z_t1, wsDs, List.length_map, show ¬ ((ds.length : Int) = ws.length) by omega]
                · show _ = R.ok (D.bl (if sKept = sKept then decide (ds.length = ws.length) && rowsOk m ws ds else false)) _
                  rw [if_pos rfl, decide_eq_false hl2]
                  rfl
            · refine sq_rt (st_ift (S' := Sto.nil) ?_ (st_ret ?_))
              · simp only [fnS, env0, sSeq, sSet, sRet, sRetN, sIf, sE, sAsg, sPar, sNx, sPut, R.toS, R.bind, eVar, eC, eOp, eTup, eLst, eLstR, aCons, aNil, eIf, eAn, eOr, eNt, eIsi, toB, tNt, tAn, tOr_, tYs, eCall, eCall0, eB, eMt, eMt0, iSrc, iRg1, iRg2, iEn, iZp, gN, gT, gsCons, gsNil, turnS, List.map_cons, List.map_nil, List.length_cons, List.length_nil, List.replicate, List.cons_append, List.nil_append, List.getElem?_cons_zero, List.getElem?_cons_succ, List.set_cons_zero, List.set_cons_succ, Nat.sub_self, Nat.reduceSub, Nat.reduceAdd, if_true, Bool.false_eq_true, if_false, ite_true, ite_false, List.cons.injEq, and_false, false_and, true_and, and_true, decide_false, decide_true, Bool.not_true, Bool.not_false, Bool.true_and, Bool.false_and, Bool.and_true, Bool.and_false, Bool.or_false, Bool.or_true, Bool.false_or, Bool.true_or, Nat.reduceEqDiff, reduceCtorEq, eSl, pSome, pNone, lcT, wipeE, fits_0, fits_1, fits_2, fits_3, fits_4, eIsi, rd_val (val_nrf hy), ht, z_t1]
              · cases y <;> first | rfl | exact absurd rfl (hn _)
          · have hlen : ¬ (((r.length + 1 + 1 + 1 : Nat) : Int) = 2) := by omega
            refine sq_nx (st_iff (S' := Sto.nil) ?_ st_nx) ?_
            · simp only [fnS, env0, sSeq, sSet, sRet, sRetN, sIf, sE, sAsg, sPar, sNx, sPut, R.toS, R.bind, eVar, eC, eOp, eTup, eLst, eLstR, aCons, aNil, eIf, eAn, eOr, eNt, eIsi, toB, tNt, tAn, tOr_, tYs, eCall, eCall0, eB, eMt, eMt0, iSrc, iRg1, iRg2, iEn, iZp, gN, gT, gsCons, gsNil, turnS, List.map_cons, List.map_nil, List.length_cons, List.length_nil, List.replicate, List.cons_append, List.nil_append, List.getElem?_cons_zero, List.getElem?_cons_succ, List.set_cons_zero, List.set_cons_succ, Nat.sub_self, Nat.reduceSub, Nat.reduceAdd, if_true, Bool.false_eq_true, if_false, ite_true, ite_false, List.cons.injEq, and_false, false_and, true_and, and_true, decide_false, decide_true, Bool.not_true, Bool.not_false, Bool.true_and, Bool.false_and, Bool.and_true, Bool.and_false, Bool.or_false, Bool.or_true, Bool.false_or, Bool.true_or, Nat.reduceEqDiff, reduceCtorEq, eSl, pSome, pNone, lcT, wipeE, fits_0, fits_1, fits_2, fits_3, fits_4, z_t0, hk1, z_lenT, z_eqi, List.length_cons, decide_eq_false hlen]
            · refine sq_rt (st_ift (S' := Sto.nil) ?_ (st_ret ?_))
              · simp only [fnS, env0, sSeq, sSet, sRet, sRetN, sIf, sE, sAsg, sPar, sNx, sPut, R.toS, R.bind, eVar, eC, eOp, eTup, eLst, eLstR, aCons, aNil, eIf, eAn, eOr, eNt, eIsi, toB, tNt, tAn, tOr_, tYs, eCall, eCall0, eB, eMt, eMt0, iSrc, iRg1, iRg2, iEn, iZp, gN, gT, gsCons, gsNil, turnS, List.map_cons, List.map_nil, List.length_cons, List.length_nil, List.replicate, List.cons_append, List.nil_append, List.getElem?_cons_zero, List.getElem?_cons_succ, List.set_cons_zero, List.set_cons_succ, Nat.sub_self, Nat.reduceSub, Nat.reduceAdd, if_true, Bool.false_eq_true, if_false, ite_true, ite_false, List.cons.injEq, and_false, false_and, true_and, and_true, decide_false, decide_true, Bool.not_true, Bool.not_false, Bool.true_and, Bool.false_and, Bool.and_true, Bool.and_false, Bool.or_false, Bool.or_true, Bool.false_or, Bool.true_or, Nat.reduceEqDiff, reduceCtorEq, eSl, pSome, pNone, lcT, wipeE, fits_0, fits_1, fits_2, fits_3, fits_4, z_t0, hk2]
              · cases r <;> rfl
        · have hk0 : decide (s = [107, 101, 112, 116]) = false := decide_eq_false hk
          refine sq_nx (st_iff (S' := Sto.nil) (by simp only [fnS, env0, sSeq, sSet, sRet, sRetN, sIf, sE, sAsg, sPar, sNx, sPut, R.toS, R.bind, eVar, eC, eOp, eTup, eLst, eLstR, aCons, aNil, eIf, eAn, eOr, eNt, eIsi, toB, tNt, tAn, tOr_, tYs, eCall, eCall0, eB, eMt, eMt0, iSrc, iRg1, iRg2, iEn, iZp, gN, gT, gsCons, gsNil, turnS, List.map_cons, List.map_nil, List.length_cons, List.length_nil, List.replicate, List.cons_append, List.nil_append, List.getElem?_cons_zero, List.getElem?_cons_succ, List.set_cons_zero, List.set_cons_succ, Nat.sub_self, Nat.reduceSub, Nat.reduceAdd, if_true, Bool.false_eq_true, if_false, ite_true, ite_false, List.cons.injEq, and_false, false_and, true_and, and_true, decide_false, decide_true, Bool.not_true, Bool.not_false, Bool.true_and, Bool.false_and, Bool.and_true, Bool.and_false, Bool.or_false, Bool.or_true, Bool.false_or, Bool.true_or, Nat.reduceEqDiff, reduceCtorEq, eSl, pSome, pNone, lcT, wipeE, fits_0, fits_1, fits_2, fits_3, fits_4, z_t0, z_eqs, hk0]) st_nx) ?_
          by_cases hb : s = sBroken
          · subst hb
            have hb1 : ∀ S, oNe (.str sBroken) (.str [98, 114, 111, 107, 101, 110]) S = .ok (.bl false) S := fun _ => rfl
            rcases r with _ | ⟨y, _ | ⟨z, _ | ⟨z', r⟩⟩⟩
            · exact sq_rt (st_ift (S' := Sto.nil) rfl (st_ret rfl))
            · exact sq_rt (st_ift (S' := Sto.nil) rfl (st_ret rfl))
            · have hy : val y = true := val_tup h (by simp)
              have hz : val z = true := val_tup h (by simp)
              have hp : isPaper m ws (.tup [.str sBroken, y, z]) = isBroken m ws y z := rfl
              rw [hp]
              cases hc : isC y with
              | false =>
                refine sq_rt (st_ift (S' := Sto.nil) ?_ (st_ret ?_))
                · simp only [fnS, env0, sSeq, sSet, sRet, sRetN, sIf, sE, sAsg, sPar, sNx, sPut, R.toS, R.bind, eVar, eC, eOp, eTup, eLst, eLstR, aCons, aNil, eIf, eAn, eOr, eNt, eIsi, toB, tNt, tAn, tOr_, tYs, eCall, eCall0, eB, eMt, eMt0, iSrc, iRg1, iRg2, iEn, iZp, gN, gT, gsCons, gsNil, turnS, List.map_cons, List.map_nil, List.length_cons, List.length_nil, List.replicate, List.cons_append, List.nil_append, List.getElem?_cons_zero, List.getElem?_cons_succ, List.set_cons_zero, List.set_cons_succ, Nat.sub_self, Nat.reduceSub, Nat.reduceAdd, if_true, Bool.false_eq_true, if_false, ite_true, ite_false, List.cons.injEq, and_false, false_and, true_and, and_true, decide_false, decide_true, Bool.not_true, Bool.not_false, Bool.true_and, Bool.false_and, Bool.and_true, Bool.and_false, Bool.or_false, Bool.or_true, Bool.false_or, Bool.true_or, Nat.reduceEqDiff, reduceCtorEq, eSl, pSome, pNone, lcT, wipeE, fits_0, fits_1, fits_2, fits_3, fits_4, z_t0, z_t1, hb1, z_lenT, z_nei, List.length_cons, List.length_nil, show ((0 + 1 + 1 + 1 : Nat) : Int) = 3 from rfl, p_is_count hy, hc]
                · cases y with
                  | int i =>
                    have : ¬ 0 ≤ i := of_decide_eq_false hc
                    rw [isB_int]
                    rw [if_neg this]
                    rfl
                  | _ => rfl
              | true =>
                cases y with
                | int i =>
                  have h0 : 0 ≤ i := of_decide_eq_true hc
                  have hin := brok_in (m := m) (ws := ws) h0
                  have hnot : ∀ S, oNotIn (.int i) (.tup (brokenD m ws)) S = .ok (.bl (!((brokenD m ws).any fun z => eqv z (.int i)))) S := fun S => z_notInT rfl rfl (brokD_shp m ws)
                  rw [isB_int, if_pos h0]
                  cases hwi : ws[i.toNat]? with
                  | none =>
                    rw [hwi] at hin
                    refine sq_rt (st_ift (S' := Sto.nil) ?_ (st_ret rfl))
                    simp only [fnS, env0, sSeq, sSet, sRet, sRetN, sIf, sE, sAsg, sPar, sNx, sPut, R.toS, R.bind, eVar, eC, eOp, eTup, eLst, eLstR, aCons, aNil, eIf, eAn, eOr, eNt, eIsi, toB, tNt, tAn, tOr_, tYs, eCall, eCall0, eB, eMt, eMt0, iSrc, iRg1, iRg2, iEn, iZp, gN, gT, gsCons, gsNil, turnS, List.map_cons, List.map_nil, List.length_cons, List.length_nil, List.replicate, List.cons_append, List.nil_append, List.getElem?_cons_zero, List.getElem?_cons_succ, List.set_cons_zero, List.set_cons_succ, Nat.sub_self, Nat.reduceSub, Nat.reduceAdd, if_true, Bool.false_eq_true, if_false, ite_true, ite_false, List.cons.injEq, and_false, false_and, true_and, and_true, decide_false, decide_true, Bool.not_true, Bool.not_false, Bool.true_and, Bool.false_and, Bool.and_true, Bool.and_false, Bool.or_false, Bool.or_true, Bool.false_or, Bool.true_or, Nat.reduceEqDiff, reduceCtorEq, eSl, pSome, pNone, lcT, wipeE, fits_0, fits_1, fits_2, fits_3, fits_4, z_t0, z_t1, hb1, z_lenT, z_nei, List.length_cons, List.length_nil, show ((0 + 1 + 1 + 1 : Nat) : Int) = 3 from rfl, p_is_count hy, hc, hnot, hin]
                  | some w =>
                    rw [hwi] at hin
                    dsimp only at hin ⊢
                    have ho : w.Ok2 := hw w (List.mem_of_getElem? hwi)
                    cases hkp : kept m w with
                    | true =>
                      rw [hkp] at hin
                      refine sq_rt (st_ift (S' := Sto.nil) ?_ (st_ret rfl))
                      simp only [fnS, env0, sSeq, sSet, sRet, sRetN, sIf, sE, sAsg, sPar, sNx, sPut, R.toS, R.bind, eVar, eC, eOp, eTup, eLst, eLstR, aCons, aNil, eIf, eAn, eOr, eNt, eIsi, toB, tNt, tAn, tOr_, tYs, eCall, eCall0, eB, eMt, eMt0, iSrc, iRg1, iRg2, iEn, iZp, gN, gT, gsCons, gsNil, turnS, List.map_cons, List.map_nil, List.length_cons, List.length_nil, List.replicate, List.cons_append, List.nil_append, List.getElem?_cons_zero, List.getElem?_cons_succ, List.set_cons_zero, List.set_cons_succ, Nat.sub_self, Nat.reduceSub, Nat.reduceAdd, if_true, Bool.false_eq_true, if_false, ite_true, ite_false, List.cons.injEq, and_false, false_and, true_and, and_true, decide_false, decide_true, Bool.not_true, Bool.not_false, Bool.true_and, Bool.false_and, Bool.and_true, Bool.and_false, Bool.or_false, Bool.or_true, Bool.false_or, Bool.true_or, Nat.reduceEqDiff, reduceCtorEq, eSl, pSome, pNone, lcT, wipeE, fits_0, fits_1, fits_2, fits_3, fits_4, z_t0, z_t1, hb1, z_lenT, z_nei, List.length_cons, List.length_nil, show ((0 + 1 + 1 + 1 : Nat) : Int) = 3 from rfl, p_is_count hy, hc, hnot, hin]
                    | false =>
                      rw [hkp] at hin
                      refine sq_nx (st_iff (S' := Sto.nil) ?_ st_nx) ?_
                      · simp only [fnS, env0, sSeq, sSet, sRet, sRetN, sIf, sE, sAsg, sPar, sNx, sPut, R.toS, R.bind, eVar, eC, eOp, eTup, eLst, eLstR, aCons, aNil, eIf, eAn, eOr, eNt, eIsi, toB, tNt, tAn, tOr_, tYs, eCall, eCall0, eB, eMt, eMt0, iSrc, iRg1, iRg2, iEn, iZp, gN, gT, gsCons, gsNil, turnS, List.map_cons, List.map_nil, List.length_cons, List.length_nil, List.replicate, List.cons_append, List.nil_append, List.getElem?_cons_zero, List.getElem?_cons_succ, List.set_cons_zero, List.set_cons_succ, Nat.sub_self, Nat.reduceSub, Nat.reduceAdd, if_true, Bool.false_eq_true, if_false, ite_true, ite_false, List.cons.injEq, and_false, false_and, true_and, and_true, decide_false, decide_true, Bool.not_true, Bool.not_false, Bool.true_and, Bool.false_and, Bool.and_true, Bool.and_false, Bool.or_false, Bool.or_true, Bool.false_or, Bool.true_or, Nat.reduceEqDiff, reduceCtorEq, eSl, pSome, pNone, lcT, wipeE, fits_0, fits_1, fits_2, fits_3, fits_4, z_t0, z_t1, hb1, z_lenT, z_nei, List.length_cons, List.length_nil, show ((0 + 1 + 1 + 1 : Nat) : Int) = 3 from rfl, p_is_count hy, hc, hnot, hin]
                      have hx : ∀ S, oIx (.tup (ws.map wsD)) (.int i) S = .ok (wsD w) S := fun S => z_ixT h0 (by rw [List.getElem?_map, hwi]; rfl)
                      refine sq_nx (st_set (d := wsD w) (S' := Sto.nil) (by simp only [fnS, env0, sSeq, sSet, sRet, sRetN, sIf, sE, sAsg, sPar, sNx, sPut, R.toS, R.bind, eVar, eC, eOp, eTup, eLst, eLstR, aCons, aNil, eIf, eAn, eOr, eNt, eIsi, toB, tNt, tAn, tOr_, tYs, eCall, eCall0, eB, eMt, eMt0, iSrc, iRg1, iRg2, iEn, iZp, gN, gT, gsCons, gsNil, turnS, List.map_cons, List.map_nil, List.length_cons, List.length_nil, List.replicate, List.cons_append, List.nil_append, List.getElem?_cons_zero, List.getElem?_cons_succ, List.set_cons_zero, List.set_cons_succ, Nat.sub_self, Nat.reduceSub, Nat.reduceAdd, if_true, Bool.false_eq_true, if_false, ite_true, ite_false, List.cons.injEq, and_false, false_and, true_and, and_true, decide_false, decide_true, Bool.not_true, Bool.not_false, Bool.true_and, Bool.false_and, Bool.and_true, Bool.and_false, Bool.or_false, Bool.or_true, Bool.false_or, Bool.true_or, Nat.reduceEqDiff, reduceCtorEq, eSl, pSome, pNone, lcT, wipeE, fits_0, fits_1, fits_2, fits_3, fits_4, z_t1, wsDs, hx])) (st_ret ?_)
                      unfold hint
                      cases hg : w.neg with
                      | true => simp only [fnS, env0, sSeq, sSet, sRet, sRetN, sIf, sE, sAsg, sPar, sNx, sPut, R.toS, R.bind, eVar, eC, eOp, eTup, eLst, eLstR, aCons, aNil, eIf, eAn, eOr, eNt, eIsi, toB, tNt, tAn, tOr_, tYs, eCall, eCall0, eB, eMt, eMt0, iSrc, iRg1, iRg2, iEn, iZp, gN, gT, gsCons, gsNil, turnS, List.map_cons, List.map_nil, List.length_cons, List.length_nil, List.replicate, List.cons_append, List.nil_append, List.getElem?_cons_zero, List.getElem?_cons_succ, List.set_cons_zero, List.set_cons_succ, Nat.sub_self, Nat.reduceSub, Nat.reduceAdd, if_true, Bool.false_eq_true, if_false, ite_true, ite_false, List.cons.injEq, and_false, false_and, true_and, and_true, decide_false, decide_true, Bool.not_true, Bool.not_false, Bool.true_and, Bool.false_and, Bool.and_true, Bool.and_false, Bool.or_false, Bool.or_true, Bool.false_or, Bool.true_or, Nat.reduceEqDiff, reduceCtorEq, eSl, pSome, pNone, lcT, wipeE, fits_0, fits_1, fits_2, fits_3, fits_4, asks_ws, hg, z_t2, p_is_shown hm ho hz]
                      | false => simp only [fnS, env0, sSeq, sSet, sRet, sRetN, sIf, sE, sAsg, sPar, sNx, sPut, R.toS, R.bind, eVar, eC, eOp, eTup, eLst, eLstR, aCons, aNil, eIf, eAn, eOr, eNt, eIsi, toB, tNt, tAn, tOr_, tYs, eCall, eCall0, eB, eMt, eMt0, iSrc, iRg1, iRg2, iEn, iZp, gN, gT, gsCons, gsNil, turnS, List.map_cons, List.map_nil, List.length_cons, List.length_nil, List.replicate, List.cons_append, List.nil_append, List.getElem?_cons_zero, List.getElem?_cons_succ, List.set_cons_zero, List.set_cons_succ, Nat.sub_self, Nat.reduceSub, Nat.reduceAdd, if_true, Bool.false_eq_true, if_false, ite_true, ite_false, List.cons.injEq, and_false, false_and, true_and, and_true, decide_false, decide_true, Bool.not_true, Bool.not_false, Bool.true_and, Bool.false_and, Bool.and_true, Bool.and_false, Bool.or_false, Bool.or_true, Bool.false_or, Bool.true_or, Nat.reduceEqDiff, reduceCtorEq, eSl, pSome, pNone, lcT, wipeE, fits_0, fits_1, fits_2, fits_3, fits_4, asks_ws, hg, z_t2, z_isN hz]
                | _ => cases hc
            · refine sq_rt (st_ift (S' := Sto.nil) ?_ (st_ret ?_))
              · have : ¬ (((r.length + 1 + 1 + 1 + 1 : Nat) : Int) = 3) := by omega
                simp only [fnS, env0, sSeq, sSet, sRet, sRetN, sIf, sE, sAsg, sPar, sNx, sPut, R.toS, R.bind, eVar, eC, eOp, eTup, eLst, eLstR, aCons, aNil, eIf, eAn, eOr, eNt, eIsi, toB, tNt, tAn, tOr_, tYs, eCall, eCall0, eB, eMt, eMt0, iSrc, iRg1, iRg2, iEn, iZp, gN, gT, gsCons, gsNil, turnS, List.map_cons, List.map_nil, List.length_cons, List.length_nil, List.replicate, List.cons_append, List.nil_append, List.getElem?_cons_zero, List.getElem?_cons_succ, List.set_cons_zero, List.set_cons_succ, Nat.sub_self, Nat.reduceSub, Nat.reduceAdd, if_true, Bool.false_eq_true, if_false, ite_true, ite_false, List.cons.injEq, and_false, false_and, true_and, and_true, decide_false, decide_true, Bool.not_true, Bool.not_false, Bool.true_and, Bool.false_and, Bool.and_true, Bool.and_false, Bool.or_false, Bool.or_true, Bool.false_or, Bool.true_or, Nat.reduceEqDiff, reduceCtorEq, eSl, pSome, pNone, lcT, wipeE, fits_0, fits_1, fits_2, fits_3, fits_4, z_t0, hb1, z_lenT, z_nei, List.length_cons, decide_eq_false this]
              · rfl
          · have hb1 : decide (s = [98, 114, 111, 107, 101, 110]) = false := decide_eq_false hb
            refine sq_rt (st_ift (S' := Sto.nil) (by simp only [fnS, env0, sSeq, sSet, sRet, sRetN, sIf, sE, sAsg, sPar, sNx, sPut, R.toS, R.bind, eVar, eC, eOp, eTup, eLst, eLstR, aCons, aNil, eIf, eAn, eOr, eNt, eIsi, toB, tNt, tAn, tOr_, tYs, eCall, eCall0, eB, eMt, eMt0, iSrc, iRg1, iRg2, iEn, iZp, gN, gT, gsCons, gsNil, turnS, List.map_cons, List.map_nil, List.length_cons, List.length_nil, List.replicate, List.cons_append, List.nil_append, List.getElem?_cons_zero, List.getElem?_cons_succ, List.set_cons_zero, List.set_cons_succ, Nat.sub_self, Nat.reduceSub, Nat.reduceAdd, if_true, Bool.false_eq_true, if_false, ite_true, ite_false, List.cons.injEq, and_false, false_and, true_and, and_true, decide_false, decide_true, Bool.not_true, Bool.not_false, Bool.true_and, Bool.false_and, Bool.and_true, Bool.and_false, Bool.or_false, Bool.or_true, Bool.false_or, Bool.true_or, Nat.reduceEqDiff, reduceCtorEq, eSl, pSome, pNone, lcT, wipeE, fits_0, fits_1, fits_2, fits_3, fits_4, z_t0, z_nes, hb1]) (st_ret ?_))
            rcases r with _ | ⟨y, _ | ⟨z, _ | ⟨z', r⟩⟩⟩
            · rfl
            · show _ = R.ok (D.bl (if s = sKept then _ else false)) _
              rw [if_neg hk]; rfl
            · show _ = R.ok (D.bl (if s = sBroken then _ else false)) _
              rw [if_neg hb]; rfl
            · rfl
      · refine sq_rt (st_ift (S' := Sto.nil) ?_ (st_ret ?_))
        · simp only [fnS, env0, sSeq, sSet, sRet, sRetN, sIf, sE, sAsg, sPar, sNx, sPut, R.toS, R.bind, eVar, eC, eOp, eTup, eLst, eLstR, aCons, aNil, eIf, eAn, eOr, eNt, eIsi, toB, tNt, tAn, tOr_, tYs, eCall, eCall0, eB, eMt, eMt0, iSrc, iRg1, iRg2, iEn, iZp, gN, gT, gsCons, gsNil, turnS, List.map_cons, List.map_nil, List.length_cons, List.length_nil, List.replicate, List.cons_append, List.nil_append, List.getElem?_cons_zero, List.getElem?_cons_succ, List.set_cons_zero, List.set_cons_succ, Nat.sub_self, Nat.reduceSub, Nat.reduceAdd, if_true, Bool.false_eq_true, if_false, ite_true, ite_false, List.cons.injEq, and_false, false_and, true_and, and_true, decide_false, decide_true, Bool.not_true, Bool.not_false, Bool.true_and, Bool.false_and, Bool.and_true, Bool.and_false, Bool.or_false, Bool.or_true, Bool.false_or, Bool.true_or, Nat.reduceEqDiff, reduceCtorEq, eSl, pSome, pNone, lcT, wipeE, fits_0, fits_1, fits_2, fits_3, fits_4, eIsi, show rd Sto.nil (.tup (x :: r)) = .tup (x :: r) from rfl, show tyB .tuple (.tup (x :: r)) = some true from rfl, rd_val (val_nrf hx), ht, show fits 0 = true from rfl, hne, z_t0]
        · unfold isPaper
          cases x <;> first | rfl | exact absurd rfl (hn _)
  · refine sq_rt (st_ift (S' := Sto.nil) ?_ (st_ret ?_))
    · simp only [fnS, env0, sSeq, sSet, sRet, sRetN, sIf, sE, sAsg, sPar, sNx, sPut, R.toS, R.bind, eVar, eC, eOp, eTup, eLst, eLstR, aCons, aNil, eIf, eAn, eOr, eNt, eIsi, toB, tNt, tAn, tOr_, tYs, eCall, eCall0, eB, eMt, eMt0, iSrc, iRg1, iRg2, iEn, iZp, gN, gT, gsCons, gsNil, turnS, List.map_cons, List.map_nil, List.length_cons, List.length_nil, List.replicate, List.cons_append, List.nil_append, List.getElem?_cons_zero, List.getElem?_cons_succ, List.set_cons_zero, List.set_cons_succ, Nat.sub_self, Nat.reduceSub, Nat.reduceAdd, if_true, Bool.false_eq_true, if_false, ite_true, ite_false, List.cons.injEq, and_false, false_and, true_and, and_true, decide_false, decide_true, Bool.not_true, Bool.not_false, Bool.true_and, Bool.false_and, Bool.and_true, Bool.and_false, Bool.or_false, Bool.or_true, Bool.false_or, Bool.true_or, Nat.reduceEqDiff, reduceCtorEq, eSl, pSome, pNone, lcT, wipeE, fits_0, fits_1, fits_2, fits_3, fits_4, eIsi, rd_val (val_nrf h), ht]
    · unfold isPaper
      cases d <;> first | rfl | exact absurd rfl (hn _)
end Zk24

namespace Zk24
open PySem PySem.Spec PyProof PyProof.Rows L2 Z
theorem tk {S : Sto} {many : Nat} (h : Bg S) (h0 : 0 < many) (h1 : many < 1073741824) : ∃ (v : Nat) (S' : Sto), f_law_take [.ref 0, .int many] S = .ok (.int v) S' ∧ v < many ∧ Nxt S S' := take_nat h h0 h1
theorem some_ok {S : Sto} {ds : List D} (h : Bg S) (h0 : 0 < ds.length) (h1 : ds.length ≤ 1000) : ∃ (d : D) (S' : Sto), f_law_some [.ref 0, .lst ds] S = .ok d S' ∧ d ∈ ds ∧ Nxt S S' := by
  obtain ⟨v, S', e, hv, n⟩ := tk h h0 (by omega)
  refine ⟨ds[v], S', ?_, List.getElem_mem hv, n⟩
  refine fn_rt ?_
  have hx : ∀ S, oIx (.lst ds) (.int v) S = .ok ds[v] S := fun S => z_ixL (by omega) (by simp [hv])
  simp only [m_law_some, env0, fnS, env0, sSeq, sSet, sRet, sRetN, sIf, sE, sAsg, sPar, sNx, sPut, R.toS, R.bind, eVar, eC, eOp, eTup, eLst, eLstR, aCons, aNil, eIf, eAn, eOr, eNt, eIsi, toB, tNt, tAn, tOr_, tYs, eCall, eCall0, eB, eMt, eMt0, iSrc, iRg1, iRg2, iEn, iZp, gN, gT, gsCons, gsNil, turnS, List.map_cons, List.map_nil, List.length_cons, List.length_nil, List.replicate, List.cons_append, List.nil_append, List.getElem?_cons_zero, List.getElem?_cons_succ, List.set_cons_zero, List.set_cons_succ, Nat.sub_self, Nat.reduceSub, Nat.reduceAdd, if_true, Bool.false_eq_true, if_false, ite_true, ite_false, List.cons.injEq, and_false, false_and, true_and, and_true, decide_false, decide_true, Bool.not_true, Bool.not_false, Bool.true_and, Bool.false_and, Bool.and_true, Bool.and_false, Bool.or_false, Bool.or_true, Bool.false_or, Bool.true_or, Nat.reduceEqDiff, reduceCtorEq, eSl, pSome, pNone, lcT, wipeE, fits_0, fits_1, fits_2, fits_3, fits_4, z_lenL, e, hx]
def nmsD : D := .tup [.str [97], .str [98]]
def tB : Nat → Nat
  | 0 => 1
  | n + 1 => 3 * tB n + 1
theorem tB_pos : ∀ n, 1 ≤ tB n
  | 0 => Nat.le_refl _
  | n + 1 => by rw [tB]; omega
theorem tB_up (n : Nat) : tB n ≤ tB (n + 1) := by rw [tB]; omega
theorem tszs_le {k : Nat} : ∀ {ts : List Tm}, (∀ t ∈ ts, tsz t ≤ k) → tszs ts ≤ ts.length * k
  | [], _ => by simp [tszs]
  | t :: ts, h => by
    have a := h t List.mem_cons_self
    have b := tszs_le (k := k) (ts := ts) fun t ht => h t (List.mem_cons_of_mem _ ht)
    rw [tszs, List.length_cons, Nat.add_mul]
    omega
theorem tds_le {k : Nat} : ∀ {ts : List Tm}, (∀ t ∈ ts, td t ≤ k) → tds ts ≤ k
  | [], _ => by simp [tds]
  | t :: ts, h => by
    have a := h t List.mem_cons_self
    have b := tds_le (k := k) (ts := ts) fun t ht => h t (List.mem_cons_of_mem _ ht)
    rw [tds]; omega
structure TmB (k : Nat) (t : Tm) : Prop where
  d : td t ≤ k
  z : tsz t ≤ tB k
theorem term_ok : ∀ (n : Nat) (deep : Nat) (S : Sto), deep < n → Bg S → ∃ (t : Tm) (S' : Sto), f_law_term n [.ref 0, nmsD, .int deep] S = .ok (tmD t) S' ∧ TmB deep t ∧ Nxt S S' := by
  intro n
  induction n with
  | zero => intro deep S h; omega
  | succ n ih =>
    intro deep S hd h
    show ∃ (t : Tm) (S' : Sto), fnS 3 6 (m_law_term (f_law_term n)) [.ref 0, nmsD, .int deep] S = .ok (tmD t) S' ∧ TmB deep t ∧ Nxt S S'
    have hB := tB_pos deep
    have first : ∃ (v : Nat) (S1 : Sto), eIf (toB (eOp (oCmp .Gt) (eVar 2) (eC (.int 0)))) (eCall 2 f_law_take (aCons (eVar 0) (aCons (eC (.int 8)) aNil))) (eCall 2 f_law_take (aCons (eVar 0) (aCons (eC (.int 4)) aNil))) (env0 3 6 [.ref 0, nmsD, .int deep]) S = .ok (.int v) S1 ∧ (4 ≤ v → 0 < deep) ∧ Nxt S S1 := by
      by_cases h0 : 0 < deep
      · obtain ⟨v, S1, e, _, nx⟩ := tk (many := 8) h (by decide) (by decide)
        have e : f_law_take [.ref 0, .int 8] S = .ok (.int v) S1 := e
        exact ⟨v, S1, by simp only [env0, fnS, env0, sSeq, sSet, sRet, sRetN, sIf, sE, sAsg, sPar, sNx, sPut, R.toS, R.bind, eVar, eC, eOp, eTup, eLst, eLstR, aCons, aNil, eIf, eAn, eOr, eNt, eIsi, toB, tNt, tAn, tOr_, tYs, eCall, eCall0, eB, eMt, eMt0, iSrc, iRg1, iRg2, iEn, iZp, gN, gT, gsCons, gsNil, turnS, List.map_cons, List.map_nil, List.length_cons, List.length_nil, List.replicate, List.cons_append, List.nil_append, List.getElem?_cons_zero, List.getElem?_cons_succ, List.set_cons_zero, List.set_cons_succ, Nat.sub_self, Nat.reduceSub, Nat.reduceAdd, if_true, Bool.false_eq_true, if_false, ite_true, ite_false, List.cons.injEq, and_false, false_and, true_and, and_true, decide_false, decide_true, Bool.not_true, Bool.not_false, Bool.true_and, Bool.false_and, Bool.and_true, Bool.and_false, Bool.or_false, Bool.or_true, Bool.false_or, Bool.true_or, Nat.reduceEqDiff, reduceCtorEq, eSl, pSome, pNone, lcT, wipeE, fits_0, fits_1, fits_2, fits_3, fits_4, z_gt, decide_eq_true (show (0 : Int) < deep by omega), e], fun _ => h0, nx⟩
      · obtain ⟨v, S1, e, hv, nx⟩ := tk (many := 4) h (by decide) (by decide)
        have e : f_law_take [.ref 0, .int 4] S = .ok (.int v) S1 := e
        exact ⟨v, S1, by simp only [env0, fnS, env0, sSeq, sSet, sRet, sRetN, sIf, sE, sAsg, sPar, sNx, sPut, R.toS, R.bind, eVar, eC, eOp, eTup, eLst, eLstR, aCons, aNil, eIf, eAn, eOr, eNt, eIsi, toB, tNt, tAn, tOr_, tYs, eCall, eCall0, eB, eMt, eMt0, iSrc, iRg1, iRg2, iEn, iZp, gN, gT, gsCons, gsNil, turnS, List.map_cons, List.map_nil, List.length_cons, List.length_nil, List.replicate, List.cons_append, List.nil_append, List.getElem?_cons_zero, List.getElem?_cons_succ, List.set_cons_zero, List.set_cons_succ, Nat.sub_self, Nat.reduceSub, Nat.reduceAdd, if_true, Bool.false_eq_true, if_false, ite_true, ite_false, List.cons.injEq, and_false, false_and, true_and, and_true, decide_false, decide_true, Bool.not_true, Bool.not_false, Bool.true_and, Bool.false_and, Bool.and_true, Bool.and_false, Bool.or_false, Bool.or_true, Bool.false_or, Bool.true_or, Nat.reduceEqDiff, reduceCtorEq, eSl, pSome, pNone, lcT, wipeE, fits_0, fits_1, fits_2, fits_3, fits_4, z_gt, decide_eq_false (show ¬ (0 : Int) < deep by omega), e], fun _ => by omega, nx⟩
    obtain ⟨v, S1, e1, hv0, n1⟩ := first
    by_cases c1 : v < 3
    · obtain ⟨d, S2, e2, hd2, n2⟩ := some_ok (ds := [.str [97], .str [98]]) n1.1 (by decide) (by decide)
      have ht : ∃ z, d = nmD z := by
        simp only [List.mem_cons, List.not_mem_nil, or_false] at hd2
        rcases hd2 with rfl | rfl
        · exact ⟨false, rfl⟩
        · exact ⟨true, rfl⟩
      obtain ⟨z, rfl⟩ := ht
      refine ⟨.zone z, S2, ?_, ⟨Nat.zero_le _, hB⟩, n1.trans n2⟩
      refine fn_rt (sq_nx (st_set e1) (sq_rt (st_ift (S' := S1) ?_ (st_ret ?_))))
      · simp only [env0, fnS, env0, sSeq, sSet, sRet, sRetN, sIf, sE, sAsg, sPar, sNx, sPut, R.toS, R.bind, eVar, eC, eOp, eTup, eLst, eLstR, aCons, aNil, eIf, eAn, eOr, eNt, eIsi, toB, tNt, tAn, tOr_, tYs, eCall, eCall0, eB, eMt, eMt0, iSrc, iRg1, iRg2, iEn, iZp, gN, gT, gsCons, gsNil, turnS, List.map_cons, List.map_nil, List.length_cons, List.length_nil, List.replicate, List.cons_append, List.nil_append, List.getElem?_cons_zero, List.getElem?_cons_succ, List.set_cons_zero, List.set_cons_succ, Nat.sub_self, Nat.reduceSub, Nat.reduceAdd, if_true, Bool.false_eq_true, if_false, ite_true, ite_false, List.cons.injEq, and_false, false_and, true_and, and_true, decide_false, decide_true, Bool.not_true, Bool.not_false, Bool.true_and, Bool.false_and, Bool.and_true, Bool.and_false, Bool.or_false, Bool.or_true, Bool.false_or, Bool.true_or, Nat.reduceEqDiff, reduceCtorEq, eSl, pSome, pNone, lcT, wipeE, fits_0, fits_1, fits_2, fits_3, fits_4, z_lt, decide_eq_true (show (v : Int) < 3 by omega)]
      · simp only [env0, fnS, env0, sSeq, sSet, sRet, sRetN, sIf, sE, sAsg, sPar, sNx, sPut, R.toS, R.bind, eVar, eC, eOp, eTup, eLst, eLstR, aCons, aNil, eIf, eAn, eOr, eNt, eIsi, toB, tNt, tAn, tOr_, tYs, eCall, eCall0, eB, eMt, eMt0, iSrc, iRg1, iRg2, iEn, iZp, gN, gT, gsCons, gsNil, turnS, List.map_cons, List.map_nil, List.length_cons, List.length_nil, List.replicate, List.cons_append, List.nil_append, List.getElem?_cons_zero, List.getElem?_cons_succ, List.set_cons_zero, List.set_cons_succ, Nat.sub_self, Nat.reduceSub, Nat.reduceAdd, if_true, Bool.false_eq_true, if_false, ite_true, ite_false, List.cons.injEq, and_false, false_and, true_and, and_true, decide_false, decide_true, Bool.not_true, Bool.not_false, Bool.true_and, Bool.false_and, Bool.and_true, Bool.and_false, Bool.or_false, Bool.or_true, Bool.false_or, Bool.true_or, Nat.reduceEqDiff, reduceCtorEq, eSl, pSome, pNone, lcT, wipeE, fits_0, fits_1, fits_2, fits_3, fits_4, nmsD, show ∀ l S, oList [.tup l] S = .ok (.lst l) S from fun _ _ => rfl, e2, show fits 2 = true from rfl, tmD]
    by_cases c2 : v = 3
    · obtain ⟨d, S2, e2, hd2, n2⟩ := some_ok (ds := [.tup [.str [97, 108, 108]], .tup [.str [110, 111, 110, 101]], .tup [.str [122, 111, 110, 101], .str [97]]]) n1.1 (by decide) (by decide)
      have ht : ∃ t, d = tmD t ∧ TmB deep t := by
        simp only [List.mem_cons, List.not_mem_nil, or_false] at hd2
        rcases hd2 with rfl | rfl | rfl
        · exact ⟨.all, rfl, Nat.zero_le _, hB⟩
        · exact ⟨.none, rfl, Nat.zero_le _, hB⟩
        · exact ⟨.zone false, rfl, Nat.zero_le _, hB⟩
      obtain ⟨t, rfl, hb⟩ := ht
      refine ⟨t, S2, ?_, hb, n1.trans n2⟩
      refine fn_rt (sq_nx (st_set e1) (sq_nx (st_iff (S' := S1) ?_ st_nx) (sq_rt (st_ift (S' := S1) ?_ (st_ret ?_)))))
      · simp only [env0, fnS, env0, sSeq, sSet, sRet, sRetN, sIf, sE, sAsg, sPar, sNx, sPut, R.toS, R.bind, eVar, eC, eOp, eTup, eLst, eLstR, aCons, aNil, eIf, eAn, eOr, eNt, eIsi, toB, tNt, tAn, tOr_, tYs, eCall, eCall0, eB, eMt, eMt0, iSrc, iRg1, iRg2, iEn, iZp, gN, gT, gsCons, gsNil, turnS, List.map_cons, List.map_nil, List.length_cons, List.length_nil, List.replicate, List.cons_append, List.nil_append, List.getElem?_cons_zero, List.getElem?_cons_succ, List.set_cons_zero, List.set_cons_succ, Nat.sub_self, Nat.reduceSub, Nat.reduceAdd, if_true, Bool.false_eq_true, if_false, ite_true, ite_false, List.cons.injEq, and_false, false_and, true_and, and_true, decide_false, decide_true, Bool.not_true, Bool.not_false, Bool.true_and, Bool.false_and, Bool.and_true, Bool.and_false, Bool.or_false, Bool.or_true, Bool.false_or, Bool.true_or, Nat.reduceEqDiff, reduceCtorEq, eSl, pSome, pNone, lcT, wipeE, fits_0, fits_1, fits_2, fits_3, fits_4, z_lt, decide_eq_false (show ¬ (v : Int) < 3 by omega)]
      · simp only [env0, fnS, env0, sSeq, sSet, sRet, sRetN, sIf, sE, sAsg, sPar, sNx, sPut, R.toS, R.bind, eVar, eC, eOp, eTup, eLst, eLstR, aCons, aNil, eIf, eAn, eOr, eNt, eIsi, toB, tNt, tAn, tOr_, tYs, eCall, eCall0, eB, eMt, eMt0, iSrc, iRg1, iRg2, iEn, iZp, gN, gT, gsCons, gsNil, turnS, List.map_cons, List.map_nil, List.length_cons, List.length_nil, List.replicate, List.cons_append, List.nil_append, List.getElem?_cons_zero, List.getElem?_cons_succ, List.set_cons_zero, List.set_cons_succ, Nat.sub_self, Nat.reduceSub, Nat.reduceAdd, if_true, Bool.false_eq_true, if_false, ite_true, ite_false, List.cons.injEq, and_false, false_and, true_and, and_true, decide_false, decide_true, Bool.not_true, Bool.not_false, Bool.true_and, Bool.false_and, Bool.and_true, Bool.and_false, Bool.or_false, Bool.or_true, Bool.false_or, Bool.true_or, Nat.reduceEqDiff, reduceCtorEq, eSl, pSome, pNone, lcT, wipeE, fits_0, fits_1, fits_2, fits_3, fits_4, z_eqi, decide_eq_true (show (v : Int) = 3 by omega)]
      · simp only [env0, fnS, env0, sSeq, sSet, sRet, sRetN, sIf, sE, sAsg, sPar, sNx, sPut, R.toS, R.bind, eVar, eC, eOp, eTup, eLst, eLstR, aCons, aNil, eIf, eAn, eOr, eNt, eIsi, toB, tNt, tAn, tOr_, tYs, eCall, eCall0, eB, eMt, eMt0, iSrc, iRg1, iRg2, iEn, iZp, gN, gT, gsCons, gsNil, turnS, List.map_cons, List.map_nil, List.length_cons, List.length_nil, List.replicate, List.cons_append, List.nil_append, List.getElem?_cons_zero, List.getElem?_cons_succ, List.set_cons_zero, List.set_cons_succ, Nat.sub_self, Nat.reduceSub, Nat.reduceAdd, if_true, Bool.false_eq_true, if_false, ite_true, ite_false, List.cons.injEq, and_false, false_and, true_and, and_true, decide_false, decide_true, Bool.not_true, Bool.not_false, Bool.true_and, Bool.false_and, Bool.and_true, Bool.and_false, Bool.or_false, Bool.or_true, Bool.false_or, Bool.true_or, Nat.reduceEqDiff, reduceCtorEq, eSl, pSome, pNone, lcT, wipeE, fits_0, fits_1, fits_2, fits_3, fits_4, nmsD, z_t0, e2, show fits 1 = true from rfl, show fits 2 = true from rfl, show fits 3 = true from rfl]
    obtain ⟨dp, rfl⟩ : ∃ dp, deep = dp + 1 := ⟨deep - 1, by have := hv0 (by omega); omega⟩
    have edp : ((dp + 1 : Nat) : Int) - 1 = (dp : Int) := by omega
    by_cases c3 : v = 4
    · obtain ⟨t, S2, e2, hb, n2⟩ := ih dp S1 (by omega) n1.1
      refine ⟨.not t, S2, ?_, ⟨Nat.succ_le_succ hb.d, by have := hb.z; show tsz t + 1 ≤ 3 * tB dp + 1; omega⟩, n1.trans n2⟩
      refine fn_rt (sq_nx (st_set e1) (sq_nx (st_iff (S' := S1) ?_ st_nx) (sq_nx (st_iff (S' := S1) ?_ st_nx) (sq_rt (st_ift (S' := S1) ?_ (st_ret ?_))))))
      · simp only [env0, fnS, env0, sSeq, sSet, sRet, sRetN, sIf, sE, sAsg, sPar, sNx, sPut, R.toS, R.bind, eVar, eC, eOp, eTup, eLst, eLstR, aCons, aNil, eIf, eAn, eOr, eNt, eIsi, toB, tNt, tAn, tOr_, tYs, eCall, eCall0, eB, eMt, eMt0, iSrc, iRg1, iRg2, iEn, iZp, gN, gT, gsCons, gsNil, turnS, List.map_cons, List.map_nil, List.length_cons, List.length_nil, List.replicate, List.cons_append, List.nil_append, List.getElem?_cons_zero, List.getElem?_cons_succ, List.set_cons_zero, List.set_cons_succ, Nat.sub_self, Nat.reduceSub, Nat.reduceAdd, if_true, Bool.false_eq_true, if_false, ite_true, ite_false, List.cons.injEq, and_false, false_and, true_and, and_true, decide_false, decide_true, Bool.not_true, Bool.not_false, Bool.true_and, Bool.false_and, Bool.and_true, Bool.and_false, Bool.or_false, Bool.or_true, Bool.false_or, Bool.true_or, Nat.reduceEqDiff, reduceCtorEq, eSl, pSome, pNone, lcT, wipeE, fits_0, fits_1, fits_2, fits_3, fits_4, z_lt, decide_eq_false (show ¬ (v : Int) < 3 by omega)]
      · simp only [env0, fnS, env0, sSeq, sSet, sRet, sRetN, sIf, sE, sAsg, sPar, sNx, sPut, R.toS, R.bind, eVar, eC, eOp, eTup, eLst, eLstR, aCons, aNil, eIf, eAn, eOr, eNt, eIsi, toB, tNt, tAn, tOr_, tYs, eCall, eCall0, eB, eMt, eMt0, iSrc, iRg1, iRg2, iEn, iZp, gN, gT, gsCons, gsNil, turnS, List.map_cons, List.map_nil, List.length_cons, List.length_nil, List.replicate, List.cons_append, List.nil_append, List.getElem?_cons_zero, List.getElem?_cons_succ, List.set_cons_zero, List.set_cons_succ, Nat.sub_self, Nat.reduceSub, Nat.reduceAdd, if_true, Bool.false_eq_true, if_false, ite_true, ite_false, List.cons.injEq, and_false, false_and, true_and, and_true, decide_false, decide_true, Bool.not_true, Bool.not_false, Bool.true_and, Bool.false_and, Bool.and_true, Bool.and_false, Bool.or_false, Bool.or_true, Bool.false_or, Bool.true_or, Nat.reduceEqDiff, reduceCtorEq, eSl, pSome, pNone, lcT, wipeE, fits_0, fits_1, fits_2, fits_3, fits_4, z_eqi, decide_eq_false (show ¬ (v : Int) = 3 by omega)]
      · simp only [env0, fnS, env0, sSeq, sSet, sRet, sRetN, sIf, sE, sAsg, sPar, sNx, sPut, R.toS, R.bind, eVar, eC, eOp, eTup, eLst, eLstR, aCons, aNil, eIf, eAn, eOr, eNt, eIsi, toB, tNt, tAn, tOr_, tYs, eCall, eCall0, eB, eMt, eMt0, iSrc, iRg1, iRg2, iEn, iZp, gN, gT, gsCons, gsNil, turnS, List.map_cons, List.map_nil, List.length_cons, List.length_nil, List.replicate, List.cons_append, List.nil_append, List.getElem?_cons_zero, List.getElem?_cons_succ, List.set_cons_zero, List.set_cons_succ, Nat.sub_self, Nat.reduceSub, Nat.reduceAdd, if_true, Bool.false_eq_true, if_false, ite_true, ite_false, List.cons.injEq, and_false, false_and, true_and, and_true, decide_false, decide_true, Bool.not_true, Bool.not_false, Bool.true_and, Bool.false_and, Bool.and_true, Bool.and_false, Bool.or_false, Bool.or_true, Bool.false_or, Bool.true_or, Nat.reduceEqDiff, reduceCtorEq, eSl, pSome, pNone, lcT, wipeE, fits_0, fits_1, fits_2, fits_3, fits_4, z_eqi, decide_eq_true (show (v : Int) = 4 by omega)]
      · simp only [env0, fnS, env0, sSeq, sSet, sRet, sRetN, sIf, sE, sAsg, sPar, sNx, sPut, R.toS, R.bind, eVar, eC, eOp, eTup, eLst, eLstR, aCons, aNil, eIf, eAn, eOr, eNt, eIsi, toB, tNt, tAn, tOr_, tYs, eCall, eCall0, eB, eMt, eMt0, iSrc, iRg1, iRg2, iEn, iZp, gN, gT, gsCons, gsNil, turnS, List.map_cons, List.map_nil, List.length_cons, List.length_nil, List.replicate, List.cons_append, List.nil_append, List.getElem?_cons_zero, List.getElem?_cons_succ, List.set_cons_zero, List.set_cons_succ, Nat.sub_self, Nat.reduceSub, Nat.reduceAdd, if_true, Bool.false_eq_true, if_false, ite_true, ite_false, List.cons.injEq, and_false, false_and, true_and, and_true, decide_false, decide_true, Bool.not_true, Bool.not_false, Bool.true_and, Bool.false_and, Bool.and_true, Bool.and_false, Bool.or_false, Bool.or_true, Bool.false_or, Bool.true_or, Nat.reduceEqDiff, reduceCtorEq, eSl, pSome, pNone, lcT, wipeE, fits_0, fits_1, fits_2, fits_3, fits_4, z_subI, edp, e2, show fits 2 = true from rfl, tmD]
    · obtain ⟨d, S2, e2, hd2, n2⟩ := some_ok (ds := [.str [97, 110, 100], .str [111, 114]]) n1.1 (by decide) (by decide)
      have ht : ∃ c : Bool, d = .str (if c then [97, 110, 100] else [111, 114]) := by
        simp only [List.mem_cons, List.not_mem_nil, or_false] at hd2
        rcases hd2 with rfl | rfl
        · exact ⟨true, rfl⟩
        · exact ⟨false, rfl⟩
      obtain ⟨c, rfl⟩ := ht
      obtain ⟨w, S3, e3, hw, n3⟩ := tk (many := 2) n2.1 (by decide) (by decide)
      have e3 : f_law_take [.ref 0, .int 2] S2 = .ok (.int w) S3 := e3
      obtain ⟨ts, S4, e4, q4, l4, n4⟩ := eLc_eff (vs := [5]) (mi := iRg1 (aCons (eOp oAdd (eC (.int 2)) (eCall 2 f_law_take (aCons (eVar 0) (aCons (eC (.int 2)) aNil)))) aNil)) (g := gN 5) (t := tYs) (e := eCall 3 (f_law_term n) (aCons (eVar 0) (aCons (eVar 1) (aCons (eOp oSub (eVar 2) (eC (.int 1))) aNil)))) (ρ := [some (.ref 0), some nmsD, some (.int ((dp + 1 : Nat) : Int)), some (.int v), some (.str (if c then [97, 110, 100] else [111, 114])), none]) (S := S2) (S1 := S3) (ds := (List.range (2 + w)).map nD) (out := tmD) (TmB dp) (rg1_nat (by
          have : (2 : Int) + (w : Int) = ((2 + w : Nat) : Int) := by omega
          simp only [fnS, env0, sSeq, sSet, sRet, sRetN, sIf, sE, sAsg, sPar, sNx, sPut, R.toS, R.bind, eVar, eC, eOp, eTup, eLst, eLstR, aCons, aNil, eIf, eAn, eOr, eNt, eIsi, toB, tNt, tAn, tOr_, tYs, eCall, eCall0, eB, eMt, eMt0, iSrc, iRg1, iRg2, iEn, iZp, gN, gT, gsCons, gsNil, turnS, List.map_cons, List.map_nil, List.length_cons, List.length_nil, List.replicate, List.cons_append, List.nil_append, List.getElem?_cons_zero, List.getElem?_cons_succ, List.set_cons_zero, List.set_cons_succ, Nat.sub_self, Nat.reduceSub, Nat.reduceAdd, if_true, Bool.false_eq_true, if_false, ite_true, ite_false, List.cons.injEq, and_false, false_and, true_and, and_true, decide_false, decide_true, Bool.not_true, Bool.not_false, Bool.true_and, Bool.false_and, Bool.and_true, Bool.and_false, Bool.or_false, Bool.or_true, Bool.false_or, Bool.true_or, Nat.reduceEqDiff, reduceCtorEq, eSl, pSome, pNone, lcT, wipeE, fits_0, fits_1, fits_2, fits_3, fits_4, e3, z_addI, this, nD]) (by omega)) n3 (fun d _ S hS => by
          obtain ⟨t, S', e, hb, nx⟩ := ih dp S (by omega) hS
          refine ⟨t, S', ?_, hb, nx⟩
          simp only [fnS, env0, sSeq, sSet, sRet, sRetN, sIf, sE, sAsg, sPar, sNx, sPut, R.toS, R.bind, eVar, eC, eOp, eTup, eLst, eLstR, aCons, aNil, eIf, eAn, eOr, eNt, eIsi, toB, tNt, tAn, tOr_, tYs, eCall, eCall0, eB, eMt, eMt0, iSrc, iRg1, iRg2, iEn, iZp, gN, gT, gsCons, gsNil, turnS, List.map_cons, List.map_nil, List.length_cons, List.length_nil, List.replicate, List.cons_append, List.nil_append, List.getElem?_cons_zero, List.getElem?_cons_succ, List.set_cons_zero, List.set_cons_succ, Nat.sub_self, Nat.reduceSub, Nat.reduceAdd, if_true, Bool.false_eq_true, if_false, ite_true, ite_false, List.cons.injEq, and_false, false_and, true_and, and_true, decide_false, decide_true, Bool.not_true, Bool.not_false, Bool.true_and, Bool.false_and, Bool.and_true, Bool.and_false, Bool.or_false, Bool.or_true, Bool.false_or, Bool.true_or, Nat.reduceEqDiff, reduceCtorEq, eSl, pSome, pNone, lcT, wipeE, fits_0, fits_1, fits_2, fits_3, fits_4, z_subI, edp, e]) (by rw [List.length_map, List.length_range]; omega)
      rw [List.length_map, List.length_range] at l4
      refine ⟨.op c ts, S4, ?_, ⟨Nat.succ_le_succ (tds_le fun t ht => (q4 t ht).d), ?_⟩, n1.trans (n2.trans n4)⟩
      · refine fn_rt (sq_nx (st_set e1) (sq_nx (st_iff (S' := S1) ?_ st_nx) (sq_nx (st_iff (S' := S1) ?_ st_nx) (sq_nx (st_iff (S' := S1) ?_ st_nx) (sq_nx (st_set (d := .str (if c then [97, 110, 100] else [111, 114])) (S' := S2) ?_) (st_ret ?_))))))
        · simp only [env0, fnS, env0, sSeq, sSet, sRet, sRetN, sIf, sE, sAsg, sPar, sNx, sPut, R.toS, R.bind, eVar, eC, eOp, eTup, eLst, eLstR, aCons, aNil, eIf, eAn, eOr, eNt, eIsi, toB, tNt, tAn, tOr_, tYs, eCall, eCall0, eB, eMt, eMt0, iSrc, iRg1, iRg2, iEn, iZp, gN, gT, gsCons, gsNil, turnS, List.map_cons, List.map_nil, List.length_cons, List.length_nil, List.replicate, List.cons_append, List.nil_append, List.getElem?_cons_zero, List.getElem?_cons_succ, List.set_cons_zero, List.set_cons_succ, Nat.sub_self, Nat.reduceSub, Nat.reduceAdd, if_true, Bool.false_eq_true, if_false, ite_true, ite_false, List.cons.injEq, and_false, false_and, true_and, and_true, decide_false, decide_true, Bool.not_true, Bool.not_false, Bool.true_and, Bool.false_and, Bool.and_true, Bool.and_false, Bool.or_false, Bool.or_true, Bool.false_or, Bool.true_or, Nat.reduceEqDiff, reduceCtorEq, eSl, pSome, pNone, lcT, wipeE, fits_0, fits_1, fits_2, fits_3, fits_4, z_lt, decide_eq_false (show ¬ (v : Int) < 3 by omega)]
        · simp only [env0, fnS, env0, sSeq, sSet, sRet, sRetN, sIf, sE, sAsg, sPar, sNx, sPut, R.toS, R.bind, eVar, eC, eOp, eTup, eLst, eLstR, aCons, aNil, eIf, eAn, eOr, eNt, eIsi, toB, tNt, tAn, tOr_, tYs, eCall, eCall0, eB, eMt, eMt0, iSrc, iRg1, iRg2, iEn, iZp, gN, gT, gsCons, gsNil, turnS, List.map_cons, List.map_nil, List.length_cons, List.length_nil, List.replicate, List.cons_append, List.nil_append, List.getElem?_cons_zero, List.getElem?_cons_succ, List.set_cons_zero, List.set_cons_succ, Nat.sub_self, Nat.reduceSub, Nat.reduceAdd, if_true, Bool.false_eq_true, if_false, ite_true, ite_false, List.cons.injEq, and_false, false_and, true_and, and_true, decide_false, decide_true, Bool.not_true, Bool.not_false, Bool.true_and, Bool.false_and, Bool.and_true, Bool.and_false, Bool.or_false, Bool.or_true, Bool.false_or, Bool.true_or, Nat.reduceEqDiff, reduceCtorEq, eSl, pSome, pNone, lcT, wipeE, fits_0, fits_1, fits_2, fits_3, fits_4, z_eqi, decide_eq_false (show ¬ (v : Int) = 3 by omega)]
        · simp only [env0, fnS, env0, sSeq, sSet, sRet, sRetN, sIf, sE, sAsg, sPar, sNx, sPut, R.toS, R.bind, eVar, eC, eOp, eTup, eLst, eLstR, aCons, aNil, eIf, eAn, eOr, eNt, eIsi, toB, tNt, tAn, tOr_, tYs, eCall, eCall0, eB, eMt, eMt0, iSrc, iRg1, iRg2, iEn, iZp, gN, gT, gsCons, gsNil, turnS, List.map_cons, List.map_nil, List.length_cons, List.length_nil, List.replicate, List.cons_append, List.nil_append, List.getElem?_cons_zero, List.getElem?_cons_succ, List.set_cons_zero, List.set_cons_succ, Nat.sub_self, Nat.reduceSub, Nat.reduceAdd, if_true, Bool.false_eq_true, if_false, ite_true, ite_false, List.cons.injEq, and_false, false_and, true_and, and_true, decide_false, decide_true, Bool.not_true, Bool.not_false, Bool.true_and, Bool.false_and, Bool.and_true, Bool.and_false, Bool.or_false, Bool.or_true, Bool.false_or, Bool.true_or, Nat.reduceEqDiff, reduceCtorEq, eSl, pSome, pNone, lcT, wipeE, fits_0, fits_1, fits_2, fits_3, fits_4, z_eqi, decide_eq_false (show ¬ (v : Int) = 4 by omega)]
        · simp only [env0, fnS, env0, sSeq, sSet, sRet, sRetN, sIf, sE, sAsg, sPar, sNx, sPut, R.toS, R.bind, eVar, eC, eOp, eTup, eLst, eLstR, aCons, aNil, eIf, eAn, eOr, eNt, eIsi, toB, tNt, tAn, tOr_, tYs, eCall, eCall0, eB, eMt, eMt0, iSrc, iRg1, iRg2, iEn, iZp, gN, gT, gsCons, gsNil, turnS, List.map_cons, List.map_nil, List.length_cons, List.length_nil, List.replicate, List.cons_append, List.nil_append, List.getElem?_cons_zero, List.getElem?_cons_succ, List.set_cons_zero, List.set_cons_succ, Nat.sub_self, Nat.reduceSub, Nat.reduceAdd, if_true, Bool.false_eq_true, if_false, ite_true, ite_false, List.cons.injEq, and_false, false_and, true_and, and_true, decide_false, decide_true, Bool.not_true, Bool.not_false, Bool.true_and, Bool.false_and, Bool.and_true, Bool.and_false, Bool.or_false, Bool.or_true, Bool.false_or, Bool.true_or, Nat.reduceEqDiff, reduceCtorEq, eSl, pSome, pNone, lcT, wipeE, fits_0, fits_1, fits_2, fits_3, fits_4, e2, show fits 2 = true from rfl]
        · show (eOp oAdd (eTup (aCons (eVar 4) aNil)) (eB oTuple (aCons _ aNil))) [some (.ref 0), some nmsD, some (.int ((dp + 1 : Nat) : Int)), some (.int v), some (.str (if c then [97, 110, 100] else [111, 114])), none] S2 = _
          revert e4
          generalize eLc _ _ _ _ _ = E
          intro e4
          simp only [fnS, env0, sSeq, sSet, sRet, sRetN, sIf, sE, sAsg, sPar, sNx, sPut, R.toS, R.bind, eVar, eC, eOp, eTup, eLst, eLstR, aCons, aNil, eIf, eAn, eOr, eNt, eIsi, toB, tNt, tAn, tOr_, tYs, eCall, eCall0, eB, eMt, eMt0, iSrc, iRg1, iRg2, iEn, iZp, gN, gT, gsCons, gsNil, turnS, List.map_cons, List.map_nil, List.length_cons, List.length_nil, List.replicate, List.cons_append, List.nil_append, List.getElem?_cons_zero, List.getElem?_cons_succ, List.set_cons_zero, List.set_cons_succ, Nat.sub_self, Nat.reduceSub, Nat.reduceAdd, if_true, Bool.false_eq_true, if_false, ite_true, ite_false, List.cons.injEq, and_false, false_and, true_and, and_true, decide_false, decide_true, Bool.not_true, Bool.not_false, Bool.true_and, Bool.false_and, Bool.and_true, Bool.and_false, Bool.or_false, Bool.or_true, Bool.false_or, Bool.true_or, Nat.reduceEqDiff, reduceCtorEq, eSl, pSome, pNone, lcT, wipeE, fits_0, fits_1, fits_2, fits_3, fits_4, e4, show fits 1 = true from rfl, show ∀ l S, oTuple [.lst l] S = .ok (.tup l) S from fun _ _ => rfl]
          rw [z_addT (by rw [List.length_map, List.length_singleton]; omega), tmD, tmDs_map]
          rfl
      · have := tszs_le (k := tB dp) (ts := ts) fun t ht => (q4 t ht).z
        have h3 : ts.length * tB dp ≤ 3 * tB dp := Nat.mul_le_mul_right _ (by omega)
        show tszs ts + 1 ≤ 3 * tB dp + 1
        omega
theorem wish_ok {S : Sto} (h : Bg S) : ∃ (w : Ws) (S' : Sto), f_law_wish [.ref 0, nmsD] S = .ok (wsD w) S' ∧ w.Ok2 ∧ Nxt S S' := by
  obtain ⟨d, S1, e1, hd1, n1⟩ := some_ok (ds := [.str [115, 111, 109, 101], .str [110, 111], .str [115, 101, 97, 109], .str [97, 112, 97, 114, 116]]) h (by decide) (by decide)
  have ht : (∃ g, d = .str (w1 g)) ∨ (∃ g, d = .str (w2 g)) := by
    simp only [List.mem_cons, List.not_mem_nil, or_false] at hd1
    rcases hd1 with rfl | rfl | rfl | rfl
    · exact .inl ⟨false, rfl⟩
    · exact .inl ⟨true, rfl⟩
    · exact .inr ⟨false, rfl⟩
    · exact .inr ⟨true, rfl⟩
  rcases ht with ⟨g, rfl⟩ | ⟨g, rfl⟩
  · obtain ⟨t, S2, e2, hb, n2⟩ := term_ok 4 2 S1 (by decide) n1.1
    have e2 : f_law_term 4 [.ref 0, nmsD, .int 2] S1 = .ok (tmD t) S2 := e2
    have hz := hb.z
    have hd := hb.d
    have : tB 2 = 13 := rfl
    refine ⟨.one g t, S2, ?_, ⟨by omega, by omega⟩, n1.trans n2⟩
    refine fn_rt (sq_nx (st_set (d := .str (w1 g)) (S' := S1) ?_) (sq_rt (st_ift (S' := S1) ?_ (st_ret ?_))))
    · simp only [env0, fnS, env0, sSeq, sSet, sRet, sRetN, sIf, sE, sAsg, sPar, sNx, sPut, R.toS, R.bind, eVar, eC, eOp, eTup, eLst, eLstR, aCons, aNil, eIf, eAn, eOr, eNt, eIsi, toB, tNt, tAn, tOr_, tYs, eCall, eCall0, eB, eMt, eMt0, iSrc, iRg1, iRg2, iEn, iZp, gN, gT, gsCons, gsNil, turnS, List.map_cons, List.map_nil, List.length_cons, List.length_nil, List.replicate, List.cons_append, List.nil_append, List.getElem?_cons_zero, List.getElem?_cons_succ, List.set_cons_zero, List.set_cons_succ, Nat.sub_self, Nat.reduceSub, Nat.reduceAdd, if_true, Bool.false_eq_true, if_false, ite_true, ite_false, List.cons.injEq, and_false, false_and, true_and, and_true, decide_false, decide_true, Bool.not_true, Bool.not_false, Bool.true_and, Bool.false_and, Bool.and_true, Bool.and_false, Bool.or_false, Bool.or_true, Bool.false_or, Bool.true_or, Nat.reduceEqDiff, reduceCtorEq, eSl, pSome, pNone, lcT, wipeE, fits_0, fits_1, fits_2, fits_3, fits_4, e1]
    · simp only [env0, fnS, env0, sSeq, sSet, sRet, sRetN, sIf, sE, sAsg, sPar, sNx, sPut, R.toS, R.bind, eVar, eC, eOp, eTup, eLst, eLstR, aCons, aNil, eIf, eAn, eOr, eNt, eIsi, toB, tNt, tAn, tOr_, tYs, eCall, eCall0, eB, eMt, eMt0, iSrc, iRg1, iRg2, iEn, iZp, gN, gT, gsCons, gsNil, turnS, List.map_cons, List.map_nil, List.length_cons, List.length_nil, List.replicate, List.cons_append, List.nil_append, List.getElem?_cons_zero, List.getElem?_cons_succ, List.set_cons_zero, List.set_cons_succ, Nat.sub_self, Nat.reduceSub, Nat.reduceAdd, if_true, Bool.false_eq_true, if_false, ite_true, ite_false, List.cons.injEq, and_false, false_and, true_and, and_true, decide_false, decide_true, Bool.not_true, Bool.not_false, Bool.true_and, Bool.false_and, Bool.and_true, Bool.and_false, Bool.or_false, Bool.or_true, Bool.false_or, Bool.true_or, Nat.reduceEqDiff, reduceCtorEq, eSl, pSome, pNone, lcT, wipeE, fits_0, fits_1, fits_2, fits_3, fits_4, in_w1]
    · simp only [env0, fnS, env0, sSeq, sSet, sRet, sRetN, sIf, sE, sAsg, sPar, sNx, sPut, R.toS, R.bind, eVar, eC, eOp, eTup, eLst, eLstR, aCons, aNil, eIf, eAn, eOr, eNt, eIsi, toB, tNt, tAn, tOr_, tYs, eCall, eCall0, eB, eMt, eMt0, iSrc, iRg1, iRg2, iEn, iZp, gN, gT, gsCons, gsNil, turnS, List.map_cons, List.map_nil, List.length_cons, List.length_nil, List.replicate, List.cons_append, List.nil_append, List.getElem?_cons_zero, List.getElem?_cons_succ, List.set_cons_zero, List.set_cons_succ, Nat.sub_self, Nat.reduceSub, Nat.reduceAdd, if_true, Bool.false_eq_true, if_false, ite_true, ite_false, List.cons.injEq, and_false, false_and, true_and, and_true, decide_false, decide_true, Bool.not_true, Bool.not_false, Bool.true_and, Bool.false_and, Bool.and_true, Bool.and_false, Bool.or_false, Bool.or_true, Bool.false_or, Bool.true_or, Nat.reduceEqDiff, reduceCtorEq, eSl, pSome, pNone, lcT, wipeE, fits_0, fits_1, fits_2, fits_3, fits_4, e2, wsD]
  · obtain ⟨t, S2, e2, hb, n2⟩ := term_ok 4 1 S1 (by decide) n1.1
    obtain ⟨u, S3, e3, hb3, n3⟩ := term_ok 4 1 S2 (by decide) n2.1
    have e2 : f_law_term 4 [.ref 0, nmsD, .int 1] S1 = .ok (tmD t) S2 := e2
    have e3 : f_law_term 4 [.ref 0, nmsD, .int 1] S2 = .ok (tmD u) S3 := e3
    have hz := hb.z
    have hd := hb.d
    have hz3 := hb3.z
    have hd3 := hb3.d
    have : tB 1 = 4 := rfl
    refine ⟨.two g t u, S3, ?_, ⟨⟨by omega, by omega⟩, ⟨by omega, by omega⟩⟩, n1.trans (n2.trans n3)⟩
    refine fn_rt (sq_nx (st_set (d := .str (w2 g)) (S' := S1) ?_) (sq_nx (st_iff (S' := S1) ?_ st_nx) (st_ret ?_)))
    · simp only [env0, fnS, env0, sSeq, sSet, sRet, sRetN, sIf, sE, sAsg, sPar, sNx, sPut, R.toS, R.bind, eVar, eC, eOp, eTup, eLst, eLstR, aCons, aNil, eIf, eAn, eOr, eNt, eIsi, toB, tNt, tAn, tOr_, tYs, eCall, eCall0, eB, eMt, eMt0, iSrc, iRg1, iRg2, iEn, iZp, gN, gT, gsCons, gsNil, turnS, List.map_cons, List.map_nil, List.length_cons, List.length_nil, List.replicate, List.cons_append, List.nil_append, List.getElem?_cons_zero, List.getElem?_cons_succ, List.set_cons_zero, List.set_cons_succ, Nat.sub_self, Nat.reduceSub, Nat.reduceAdd, if_true, Bool.false_eq_true, if_false, ite_true, ite_false, List.cons.injEq, and_false, false_and, true_and, and_true, decide_false, decide_true, Bool.not_true, Bool.not_false, Bool.true_and, Bool.false_and, Bool.and_true, Bool.and_false, Bool.or_false, Bool.or_true, Bool.false_or, Bool.true_or, Nat.reduceEqDiff, reduceCtorEq, eSl, pSome, pNone, lcT, wipeE, fits_0, fits_1, fits_2, fits_3, fits_4, e1]
    · simp only [env0, fnS, env0, sSeq, sSet, sRet, sRetN, sIf, sE, sAsg, sPar, sNx, sPut, R.toS, R.bind, eVar, eC, eOp, eTup, eLst, eLstR, aCons, aNil, eIf, eAn, eOr, eNt, eIsi, toB, tNt, tAn, tOr_, tYs, eCall, eCall0, eB, eMt, eMt0, iSrc, iRg1, iRg2, iEn, iZp, gN, gT, gsCons, gsNil, turnS, List.map_cons, List.map_nil, List.length_cons, List.length_nil, List.replicate, List.cons_append, List.nil_append, List.getElem?_cons_zero, List.getElem?_cons_succ, List.set_cons_zero, List.set_cons_succ, Nat.sub_self, Nat.reduceSub, Nat.reduceAdd, if_true, Bool.false_eq_true, if_false, ite_true, ite_false, List.cons.injEq, and_false, false_and, true_and, and_true, decide_false, decide_true, Bool.not_true, Bool.not_false, Bool.true_and, Bool.false_and, Bool.and_true, Bool.and_false, Bool.or_false, Bool.or_true, Bool.false_or, Bool.true_or, Nat.reduceEqDiff, reduceCtorEq, eSl, pSome, pNone, lcT, wipeE, fits_0, fits_1, fits_2, fits_3, fits_4, in_w2]
    · simp only [env0, fnS, env0, sSeq, sSet, sRet, sRetN, sIf, sE, sAsg, sPar, sNx, sPut, R.toS, R.bind, eVar, eC, eOp, eTup, eLst, eLstR, aCons, aNil, eIf, eAn, eOr, eNt, eIsi, toB, tNt, tAn, tOr_, tYs, eCall, eCall0, eB, eMt, eMt0, iSrc, iRg1, iRg2, iEn, iZp, gN, gT, gsCons, gsNil, turnS, List.map_cons, List.map_nil, List.length_cons, List.length_nil, List.replicate, List.cons_append, List.nil_append, List.getElem?_cons_zero, List.getElem?_cons_succ, List.set_cons_zero, List.set_cons_succ, Nat.sub_self, Nat.reduceSub, Nat.reduceAdd, if_true, Bool.false_eq_true, if_false, ite_true, ite_false, List.cons.injEq, and_false, false_and, true_and, and_true, decide_false, decide_true, Bool.not_true, Bool.not_false, Bool.true_and, Bool.false_and, Bool.and_true, Bool.and_false, Bool.or_false, Bool.or_true, Bool.false_or, Bool.true_or, Nat.reduceEqDiff, reduceCtorEq, eSl, pSome, pNone, lcT, wipeE, fits_0, fits_1, fits_2, fits_3, fits_4, e2, e3, wsD, show fits 3 = true from rfl]
theorem lmap_ok {S : Sto} (h : Bg S) : ∃ (m : Mp) (S' : Sto), f_law_map [.ref 0, nmsD, .int 5] S = .ok (mpD m) S' ∧ m.Ok ∧ Nxt S S' := by
  obtain ⟨n, sm, zs, S', e, h1, h5, hs, hz, hz2, nx⟩ := map_ok (names := [[97], [98]]) (most := 5) h (by decide) (by decide) (by decide)
  match zs, hz, hz2, e with
  | [(z1, za), (z2, zb)], hz, hz2, e =>
    simp only [List.map_cons, List.map_nil, List.cons.injEq, and_true] at hz
    obtain ⟨rfl, rfl⟩ := hz
    obtain ⟨a1, a2⟩ := hz2 _ List.mem_cons_self
    obtain ⟨b1, b2⟩ := hz2 _ (List.mem_cons_of_mem _ List.mem_cons_self)
    dsimp only at a1 a2 b1 b2
    have la := a2.length_le
    have lb := b2.length_le
    rw [List.length_range] at la lb
    have ls := hs.length_le
    have lc : (couplesL n).length ≤ 100 := by
      have : n = 1 ∨ n = 2 ∨ n = 3 ∨ n = 4 ∨ n = 5 := by omega
      rcases this with rfl | rfl | rfl | rfl | rfl <;> decide
    refine ⟨⟨n, sm, za, zb⟩, S', e, ⟨h5, fun p hp => couples_lt (hs.subset hp), by show sm.length ≤ 1000; omega, fun c hc => List.mem_range.mp (a2.subset hc), fun c hc => List.mem_range.mp (b2.subset hc), by show za.length ≤ 400; omega, by show zb.length ≤ 400; omega, a2.nodup List.nodup_range, b2.nodup List.nodup_range⟩, nx⟩
end Zk24

namespace Zk24
open PySem PySem.Spec PyProof PyProof.Rows L2 Z
/-! values that may come as any -/
def vl (k : Nat) (d : D) : Bool := nrf d && shp k d
theorem vl_mk {k : Nat} {d : D} (a : nrf d = true) (b : shp k d = true) : vl k d = true := by unfold vl; rw [a, b]; rfl
theorem vl_1 {k : Nat} {d : D} (h : vl k d = true) : nrf d = true := (Bool.and_eq_true_iff.mp h).1
theorem vl_2 {k : Nat} {d : D} (h : vl k d = true) : shp k d = true := (Bool.and_eq_true_iff.mp h).2
theorem vl_up {k n : Nat} {d : D} (h : vl k d = true) (l : k ≤ n) : vl n d = true := vl_mk (vl_1 h) (shp_mono d l (vl_2 h))
theorem vl_val {d : D} (h : vl 10 d = true) : val d = true := vl_up (n := 50) h (by decide)
theorem nrfs_of : ∀ {ds : List D}, (∀ d ∈ ds, nrf d = true) → nrfs ds = true
  | [], _ => rfl
  | d :: ds, h => by rw [nrfs, h d List.mem_cons_self, nrfs_of fun e he => h e (List.mem_cons_of_mem _ he)]; rfl
theorem shps_of {k : Nat} : ∀ {ds : List D}, (∀ d ∈ ds, shp k d = true) → shps (k + 1) ds = true
  | [], _ => by simp [shps]
  | d :: ds, h => by rw [shps, h d List.mem_cons_self, shps_of fun e he => h e (List.mem_cons_of_mem _ he)]; rfl
theorem vl_tup {k : Nat} {ds : List D} (h : ∀ d ∈ ds, vl k d = true) : vl (k + 1) (.tup ds) = true := vl_mk (by rw [nrf]; exact nrfs_of fun d hd => vl_1 (h d hd)) (by rw [shp]; exact shps_of fun d hd => vl_2 (h d hd))
theorem vl_lst {k : Nat} {ds : List D} (h : ∀ d ∈ ds, vl k d = true) : vl (k + 1) (.lst ds) = true := vl_mk (by rw [nrf]; exact nrfs_of fun d hd => vl_1 (h d hd)) (by rw [shp]; exact shps_of fun d hd => vl_2 (h d hd))
theorem mem_cut {α : Type} {l : List α} {a b : Option Int} {x : α} (h : x ∈ cut l a b) : x ∈ l := List.mem_of_mem_drop (List.mem_of_mem_take h)
theorem vl_hd (m : Mp) (w : Ws) : vl 2 (hdD (shownL m w)) = true := by
  refine vl_mk (hd_nrf m w) ?_
  cases w with
  | one g t =>
    show shp 2 (hdD ((cellsOf m t).map nD)) = true
    cases cellsOf m t <;> rfl
  | two g t u =>
    show shp 2 (hdD ((seamsOf m (cellsOf m t) (cellsOf m u)).map cpD)) = true
    cases seamsOf m (cellsOf m t) (cellsOf m u) <;> rfl
theorem vl_row (m : Mp) (w : Ws) : vl 2 (rowD m w) = true := by
  unfold rowD
  cases w.neg
  · exact vl_hd m w
  · rfl
theorem vl_shown (m : Mp) (w : Ws) : ∀ d ∈ shownL m w, vl 2 d = true := by
  cases w with
  | one g t => intro d hd; obtain ⟨c, _, rfl⟩ := List.mem_map.mp hd; rfl
  | two g t u => intro d hd; obtain ⟨c, _, rfl⟩ := List.mem_map.mp hd; rfl
theorem shown_len {m : Mp} (hm : m.Ok) (w : Ws) : (shownL m w).length ≤ 1000 := by
  cases w with
  | one g t => show ((cellsOf m t).map nD).length ≤ 1000; rw [List.length_map]; exact cells_len hm
  | two g t u =>
    show ((seamsOf m (cellsOf m t) (cellsOf m u)).map cpD).length ≤ 1000
    rw [List.length_map]
    exact Nat.le_trans (List.length_filter_le _ _) hm.sl
def dueL (m : Mp) (ws : List Ws) : List D := match brokenL m ws with
  | [] => [.str sKept, .tup (ws.map (rowD m))]
  | q :: _ => [.str sBroken, .int q.1, if q.2.neg then hdD (shownL m q.2) else .non]
theorem due_L (m : Mp) (ws : List Ws) : dueD m ws = .tup (dueL m ws) := by unfold dueD dueL; cases brokenL m ws <;> rfl
theorem dueL_vl (m : Mp) (ws : List Ws) : ∀ d ∈ dueL m ws, vl 3 d = true := by
  intro d hd
  unfold dueL at hd
  revert hd
  cases brokenL m ws with
  | nil =>
    intro hd
    simp only [List.mem_cons, List.not_mem_nil, or_false] at hd
    rcases hd with rfl | rfl
    · rfl
    · refine vl_tup fun d hd => ?_
      obtain ⟨w, _, rfl⟩ := List.mem_map.mp hd
      exact vl_row m w
  | cons q r =>
    intro hd
    simp only [List.mem_cons, List.not_mem_nil, or_false] at hd
    rcases hd with rfl | rfl | rfl
    · rfl
    · rfl
    · cases q.2.neg
      · rfl
      · exact vl_up (vl_hd m q.2) (by decide)
theorem dueL_len (m : Mp) (ws : List Ws) : (dueL m ws).length ≤ 3 := by unfold dueL; cases brokenL m ws <;> simp
/-! weights -/
theorem wts_le {k : Nat} : ∀ {ds : List D}, (∀ d ∈ ds, wt d ≤ k) → wts ds ≤ ds.length * (k + 2)
  | [], _ => by simp [wts]
  | d :: ds, h => by
    have a := h d List.mem_cons_self
    have b := wts_le (k := k) (ds := ds) fun t ht => h t (List.mem_cons_of_mem _ ht)
    rw [wts, List.length_cons, Nat.add_mul]
    omega
theorem wt_nD {m : Mp} (hm : m.Ok) {c : Nat} (h : c < m.n) : wt (nD c) ≤ 100 := by
  have := hm.n
  show (if (c : Int).natAbs < 1000000000000000000 then 19 else 20000000) ≤ 100
  rw [if_pos (by omega)]
  decide
theorem wt_hd {m : Mp} (hm : m.Ok) (w : Ws) : wt (hdD (shownL m w)) ≤ 300 := by
  cases w with
  | one g t =>
    show wt (hdD ((cellsOf m t).map nD)) ≤ 300
    have := cells_lt (m := m) (t := t)
    revert this
    cases cellsOf m t with
    | nil => intro _; decide
    | cons c r => intro h; exact Nat.le_trans (wt_nD hm (h c List.mem_cons_self)) (by decide)
  | two g t u =>
    show wt (hdD ((seamsOf m (cellsOf m t) (cellsOf m u)).map cpD)) ≤ 300
    have h1 : ∀ p ∈ seamsOf m (cellsOf m t) (cellsOf m u), p ∈ m.seams := fun p hp => (List.mem_filter.mp hp).1
    revert h1
    cases seamsOf m (cellsOf m t) (cellsOf m u) with
    | nil => intro _; decide
    | cons p r =>
      intro h
      obtain ⟨a, b⟩ := hm.sm p (h p List.mem_cons_self)
      have h1 := wt_nD hm (show p.1 < m.n by omega)
      have h2 := wt_nD hm b
      show wt (.tup [nD p.1, nD p.2]) ≤ 300
      have e : wt (.tup [nD p.1, nD p.2]) = wt (nD p.1) + 2 + (wt (nD p.2) + 2 + 0) + 5 := rfl
      rw [e]
      omega
theorem wt_row {m : Mp} (hm : m.Ok) (w : Ws) : wt (rowD m w) ≤ 300 := by
  unfold rowD
  cases w.neg
  · exact wt_hd hm w
  · show 4 ≤ 300; decide
theorem wt_due {m : Mp} {ws : List Ws} (hm : m.Ok) (hl : ws.length ≤ 4) : wt (dueD m ws) ≤ 16777216 := by
  unfold dueD
  cases hb : brokenL m ws with
  | nil =>
    have := wts_le (k := 300) (ds := ws.map (rowD m)) fun d hd => by
      obtain ⟨w, _, rfl⟩ := List.mem_map.mp hd
      exact wt_row hm w
    rw [List.length_map] at this
    have : wts (ws.map (rowD m)) ≤ 4 * 302 := Nat.le_trans this (Nat.mul_le_mul_right _ hl)
    simp only [wt, wts, sKept, List.length_cons, List.length_nil]
    omega
  | cons q r =>
    have hq : q ∈ brokenL m ws := by rw [hb]; exact List.mem_cons_self
    obtain ⟨j, h1, h2⟩ := numL_get (List.mem_filter.mp hq).1
    have hj := (List.getElem?_eq_some_iff.mp h2).1
    have hi : wt (.int q.1) ≤ 100 := by
      show (if q.1.natAbs < 1000000000000000000 then 19 else 20000000) ≤ 100
      rw [if_pos (by omega)]
      decide
    have hh : wt (if q.2.neg then hdD (shownL m q.2) else .non) ≤ 300 := by
      cases q.2.neg
      · show 4 ≤ 300; decide
      · exact wt_hd hm q.2
    show wt (.tup [.str sBroken, .int q.1, if q.2.neg then hdD (shownL m q.2) else .non]) ≤ _
    generalize (if q.2.neg then hdD (shownL m q.2) else .non) = e at hh
    generalize D.int q.1 = i at hi
    simp only [wt, wts, sBroken, List.length_cons, List.length_nil]
    omega
theorem due_shp (m : Mp) (ws : List Ws) : vl 4 (dueD m ws) = true := by rw [due_L]; exact vl_tup (dueL_vl m ws)
mutual
theorem beqD_refl : ∀ (d : D) (n : Nat), shp n d = true → beqD d d = true
  | .non, _, _ => rfl
  | .bl b, _, _ => by simp [beqD]
  | .int i, _, _ => by simp [beqD]
  | .str s, _, _ => by simp [beqD]
  | .tup ds, n, h => by rw [beqD]; exact beqDs_refl ds n (by simpa [shp] using h)
  | .lst ds, n, h => by rw [beqD]; exact beqDs_refl ds n (by simpa [shp] using h)
  | .dct _ _, n, h => by simp [shp] at h
  | .dcn _ _, n, h => by simp [shp] at h
  | .ref _, n, h => by simp [shp] at h
  | .arg _, n, h => by simp [shp] at h
theorem beqDs_refl : ∀ (ds : List D) (n : Nat), shps n ds = true → beqDs ds ds = true
  | [], _, _ => rfl
  | d :: ds, 0, h => by simp [shps] at h
  | d :: ds, n + 1, h => by
    have h : (shp n d && shps (n + 1) ds) = true := by simpa [shps] using h
    obtain ⟨h1, h2⟩ := Bool.and_eq_true_iff.mp h
    rw [beqDs, beqD_refl d n h1, beqDs_refl ds (n + 1) h2]; rfl
end
theorem alike_same {d : D} {S : Sto} (h1 : nrf d = true) (h2 : shp 60 d = true) (h3 : wt d ≤ 16777216) : alike [d, d] S = .ok (.bl true) S := by
  have ho : okW d = true := by unfold okW; rw [h2, Bool.true_and]; exact Nat.ble_eq_true_of_le h3
  show (if okW (rd S d) = true ∧ okW (rd S d) = true then _ else _) = _
  rw [rd_val h1, if_pos ⟨ho, ho⟩, if_pos (beqD_refl d 60 h2)]
theorem alike_bl {b : Bool} {S : Sto} : alike [.bl b, .bl b] S = .ok (.bl true) S := alike_same rfl rfl (by cases b <;> decide)
/-! the due paper is one -/
theorem any_head {l : List D} {d : D} (h : shp 60 d = true) : ((d :: l).any fun z => eqv z d) = true := by rw [List.any_cons, eqv_refl d 60 h]; rfl
theorem has_shown {m : Mp} {w : Ws} (h : has m w = true) : isShown m w (hdD (shownL m w)) = true := by
  unfold isShown inShown
  unfold has at h
  have hs := vl_2 (vl_hd m w)
  cases w with
  | one g t =>
    show (isC (hdD ((cellsOf m t).map nD)) && ((cellsOf m t).map nD).any fun z => eqv z (hdD ((cellsOf m t).map nD))) = true
    have h : (!((cellsOf m t).map nD).isEmpty) = true := h
    revert h
    cases cellsOf m t with
    | nil => intro h; cases h
    | cons c r => intro _; rw [List.map_cons]; show (isC (nD c) && ((nD c :: r.map nD).any fun z => eqv z (nD c))) = true; rw [any_head (show shp 60 (nD c) = true from rfl), show isC (nD c) = true by simp [isC, nD]]; rfl
  | two g t u =>
    show (isCp (hdD ((seamsOf m (cellsOf m t) (cellsOf m u)).map cpD)) && ((seamsOf m (cellsOf m t) (cellsOf m u)).map cpD).any fun z => eqv z (hdD ((seamsOf m (cellsOf m t) (cellsOf m u)).map cpD))) = true
    have h : (!((seamsOf m (cellsOf m t) (cellsOf m u)).map cpD).isEmpty) = true := h
    revert h
    cases seamsOf m (cellsOf m t) (cellsOf m u) with
    | nil => intro h; cases h
    | cons c r => intro _; rw [List.map_cons]; show (isCp (cpD c) && ((cpD c :: r.map cpD).any fun z => eqv z (cpD c))) = true; rw [any_head (show shp 60 (cpD c) = true from rfl), show isCp (cpD c) = true by simp [isCp, cpD, isC, nD]]; rfl
theorem row_ok {m : Mp} {w : Ws} (h : kept m w = true) : rowOk m w (rowD m w) = true := by
  unfold rowOk rowD
  cases hg : w.neg with
  | true => simp only [if_true, isNon, h]; rfl
  | false =>
    simp only [Bool.false_eq_true, if_false]
    refine has_shown ?_
    unfold kept at h
    rw [hg] at h
    simpa using h
theorem rows_ok {m : Mp} : ∀ {ws : List Ws}, (∀ w ∈ ws, kept m w = true) → rowsOk m ws (ws.map (rowD m)) = true
  | [], _ => rfl
  | w :: ws, h => by rw [List.map_cons, rowsOk, row_ok (h w List.mem_cons_self), rows_ok fun v hv => h v (List.mem_cons_of_mem _ hv)]; rfl
theorem numL_in {α : Type} {x : α} : ∀ {xs : List α} {k : Int}, x ∈ xs → ∃ i, (i, x) ∈ numL k xs
  | y :: xs, k, h => by
    rcases List.mem_cons.mp h with e | h
    · exact ⟨k, by rw [e]; exact List.mem_cons_self⟩
    · obtain ⟨i, hi⟩ := numL_in (k := k + 1) h
      exact ⟨i, List.mem_cons_of_mem _ hi⟩
theorem brok_nil {m : Mp} {ws : List Ws} : brokenL m ws = [] ↔ ∀ w ∈ ws, kept m w = true := by
  constructor
  · intro h w hw
    obtain ⟨i, hi⟩ := numL_in (k := 0) hw
    have := List.filter_eq_nil_iff.mp h _ hi
    simpa using this
  · intro h
    refine List.filter_eq_nil_iff.mpr fun q hq => ?_
    simp [h _ (numL_mem hq)]
theorem due_paper (m : Mp) (ws : List Ws) : isPaper m ws (dueD m ws) = true := by
  unfold dueD
  cases hb : brokenL m ws with
  | nil =>
    show (if sKept = sKept then decide ((ws.map (rowD m)).length = ws.length) && rowsOk m ws (ws.map (rowD m)) else false) = true
    rw [if_pos rfl, rows_ok (brok_nil.mp hb)]
    simp
  | cons q r =>
    have hq : q ∈ brokenL m ws := by rw [hb]; exact List.mem_cons_self
    obtain ⟨hq1, hq2⟩ := List.mem_filter.mp hq
    obtain ⟨j, h1, h2⟩ := numL_get hq1
    have hk : kept m q.2 = false := by simpa using hq2
    show isBroken m ws (.int q.1) (if q.2.neg then hdD (shownL m q.2) else .non) = true
    rw [isB_int, if_pos (by omega), show q.1.toNat = j by omega, h2]
    dsimp only
    rw [hk]
    unfold hint
    cases hg : q.2.neg with
    | false => rfl
    | true =>
      simp only [if_true]
      rw [has_shown]
      · rfl
      · unfold kept at hk
        rw [hg] at hk
        simpa using hk
theorem shown_has {m : Mp} {w : Ws} {d : D} (h : isShown m w d = true) : has m w = true := by
  unfold isShown inShown at h
  have h := (Bool.and_eq_true_iff.mp h).2
  unfold has
  revert h
  cases shownL m w with
  | nil => intro h; cases h
  | cons _ _ => intro _; rfl
theorem row_kept {m : Mp} {w : Ws} {d : D} (h : rowOk m w d = true) : kept m w = true := by
  unfold rowOk at h
  cases hg : w.neg with
  | true => rw [hg, if_pos rfl] at h; exact (Bool.and_eq_true_iff.mp h).2
  | false =>
    rw [hg, if_neg Bool.false_ne_true] at h
    unfold kept
    rw [shown_has h, hg]; rfl
theorem rows_kept {m : Mp} : ∀ {ws : List Ws} {ds : List D}, ds.length = ws.length → rowsOk m ws ds = true → ∀ w ∈ ws, kept m w = true
  | w :: ws, d :: ds, hl, h, v, hv => by
    rw [rowsOk] at h
    obtain ⟨h1, h2⟩ := Bool.and_eq_true_iff.mp h
    rcases List.mem_cons.mp hv with e | hv
    · rw [e]; exact row_kept h1
    · exact rows_kept (by simpa using hl) h2 v hv
/-- what sort of paper it is -/
theorem paper_kind {m : Mp} {ws : List Ws} {d : D} (h : isPaper m ws d = true) : ∃ s r, d = .tup (.str s :: r) ∧ decide (s = sKept) = (brokenD m ws).isEmpty := by
  have hE : (brokenD m ws).isEmpty = (brokenL m ws).isEmpty := by unfold brokenD; cases brokenL m ws <;> rfl
  rw [hE]
  unfold isPaper at h
  split at h
  · rename_i s d
    split at h
    · rename_i hs
      refine ⟨s, _, rfl, ?_⟩
      rw [decide_eq_true hs]
      split at h
      · rename_i ds
        obtain ⟨h1, h2⟩ := Bool.and_eq_true_iff.mp h
        rw [brok_nil.mpr (rows_kept (of_decide_eq_true h1) h2)]
        rfl
      · cases h
    · cases h
  · rename_i s x y
    split at h
    · rename_i hs
      refine ⟨s, _, rfl, ?_⟩
      subst hs
      unfold isBroken at h
      split at h
      · rename_i i
        split at h
        · rename_i h0
          cases hw : ws[i.toNat]? with
          | none => rw [hw] at h; cases h
          | some w =>
            rw [hw] at h
            have h := (Bool.and_eq_true_iff.mp h).1
            have hk : kept m w = false := by simpa using h
            cases hb : brokenL m ws with
            | nil =>
              have := brok_nil.mp hb w (List.mem_of_getElem? hw)
              rw [hk] at this; cases this
            | cons _ _ => rfl
        · cases h
      · cases h
    · cases h
  · cases h
end Zk24

namespace Zk24
open PySem PySem.Spec PyProof PyProof.Rows L2 Z
theorem flip_ok {w : Ws} (h : w.Ok2) : w.flip.Ok2 := by cases w <;> exact h
theorem ix_hd (l : List D) (S : Sto) : oIx (.tup (l ++ [.non])) (.int 0) S = .ok (hdD l) S := by cases l <;> exact z_t0
theorem eq_nil {l : List D} {S : Sto} (h : shp 60 (.lst l) = true) : oEq (.lst l) (.lst []) S = .ok (.bl l.isEmpty) S := by
  show (if shp 60 (.lst l) = true ∧ shp 60 (.lst []) = true then R.ok (D.bl (eqv (.lst l) (.lst []))) S else .bad) = _
  rw [if_pos ⟨h, rfl⟩, eqv_lst_nil]
theorem brokL_shp (m : Mp) (ws : List Ws) : shp 60 (.lst (brokenD m ws)) = true := by rw [shp]; exact shps_map _ fun _ _ => by simp [shp]
theorem cut_len {α : Type} (l : List α) (a b : Option Int) : (cut l a b).length ≤ l.length := by
  unfold cut
  refine Nat.le_trans (List.length_take_le' _ _) ?_
  rw [List.length_drop]; omega
theorem forI_all {turn : D → C} {src : Src} {S : Sto} {ds : List D} (hs : look src S = some ds) (I : Z.Env → Prop) (st : ∀ d ∈ ds, ∀ ρ, I ρ → ∃ ρ', turn d ρ S = .nx ρ' S ∧ I ρ') : ∀ (k i : Nat) (ρ : Z.Env), ds.length < k + i → i ≤ ds.length → I ρ → ∃ ρ', forI turn src k i ρ S = .nx ρ' S ∧ I ρ'
  | 0, i, ρ, h, hi, _ => by omega
  | k + 1, i, ρ, h, hi, hI => by
    unfold forI
    rw [hs]
    dsimp only
    cases e : ds[i]? with
    | none => exact ⟨ρ, rfl, hI⟩
    | some d =>
      obtain ⟨ρ', e1, h1⟩ := st d (List.mem_of_getElem? e) ρ hI
      obtain ⟨ρ2, e2, h2⟩ := forI_all hs I st k (i + 1) ρ' (by omega) (List.getElem?_eq_some_iff.mp e).1 h1
      refine ⟨ρ2, ?_, h2⟩
      dsimp only
      rw [e1]
      exact e2
theorem sFor_ref {mi : EI} {g : Tg} {body : C} {ρ : Z.Env} {S : Sto} {n : Nat} {ds : List D} (h : mi ρ S = .ok (.lv (refv n)) S) (hg : S.get n = some (.lst ds)) (I : Z.Env → Prop) (st : ∀ d ∈ ds, ∀ ρ, I ρ → ∃ ρ', turnS g body d ρ S = .nx ρ' S ∧ I ρ') (hI : I ρ) : ∃ ρ', sFor mi g body ρ S = .nx ρ' S ∧ I ρ' := by
  have hr : refv n S = some ds := by unfold refv; rw [hg]
  obtain ⟨ρ', e, h1⟩ := forI_all (turn := turnS g body) (src := .lv (refv n)) (S := S) hr I st (ds.length + 1) 0 ρ (by omega) (Nat.zero_le _) hI
  refine ⟨ρ', ?_, h1⟩
  unfold sFor
  rw [h]
  show (match refv n S with | some ds => _ | none => _) = _
  rw [hr]
  exact e
def lapB : C := (sSeq (sSet 4 (eCall 3 f_law_map (aCons (eVar 1) (aCons (eVar 2) (aCons (eC (.int 5)) aNil))))) (sSeq (sSet 5 (eLc [10] (iRg1 (aCons (eOp oAdd (eC (.int 1)) (eCall 2 f_law_take (aCons (eVar 1) (aCons (eC (.int 4)) aNil)))) aNil)) (gN 10) tYs (eCall 2 f_law_wish (aCons (eVar 1) (aCons (eVar 2) aNil))))) (sSeq (sSet 6 (eB oTuple (aCons (eLc [15] (iSrc (eVar 5)) (gN 15) tYs (eIf (tOr_ (toB (eOp oEq (eCall 2 f_law_take (aCons (eVar 1) (aCons (eC (.int 4)) aNil))) (eC (.int 0)))) (toB (eCall 2 f_law_keeps (aCons (eVar 4) (aCons (eVar 15) aNil))))) (eVar 15) (eCall 1 f_law_contrary (aCons (eVar 15) aNil)))) aNil))) (sSeq (sSet 7 (eLc [10, 15] (iEn (aCons (eVar 6) aNil)) (gT 2 (gsCons (gN 10) (gsCons (gN 15) gsNil))) (tNt (toB (eCall 2 f_law_keeps (aCons (eVar 4) (aCons (eVar 15) aNil))))) (eVar 10))) (sSeq (sSet 8 (eB oTuple (aCons (eLc [15] (iSrc (eVar 6)) (gN 15) tYs (eIf (toB (eOp oIn (eOp oIx (eVar 15) (eC (.int 0))) (eTup (aCons (eC (.str [115, 111, 109, 101])) (aCons (eC (.str [115, 101, 97, 109])) aNil))))) (eOp oIx (eOp oAdd (eCall 2 f_law_shown (aCons (eVar 4) (aCons (eVar 15) aNil))) (eTup (aCons (eC .non) aNil))) (eC (.int 0))) (eC .non))) aNil))) (sSeq (sSet 9 (eIf (toB (eOp oEq (eVar 7) (eLst aNil))) (eTup (aCons (eC (.str [107, 101, 112, 116])) (aCons (eVar 8) aNil))) (eTup (aCons (eC (.str [98, 114, 111, 107, 101, 110])) (aCons (eOp oIx (eVar 7) (eC (.int 0))) (aCons (eIf (toB (eOp oIn (eOp oIx (eOp oIx (eVar 6) (eOp oIx (eVar 7) (eC (.int 0)))) (eC (.int 0))) (eTup (aCons (eC (.str [115, 111, 109, 101])) (aCons (eC (.str [115, 101, 97, 109])) aNil))))) (eC .non) (eOp oIx (eCall 2 f_law_shown (aCons (eVar 4) (aCons (eOp oIx (eVar 6) (eOp oIx (eVar 7) (eC (.int 0)))) aNil))) (eC (.int 0)))) aNil)))))) (sSeq (sIf (tOr_ (tNt (toB (eCall 2 f_law_alike (aCons (eCall 2 f_kept_paper (aCons (eVar 4) (aCons (eVar 6) aNil))) (aCons (eVar 9) aNil))))) (tOr_ (toB (eOp oIsNot (eCall 3 f_is_kept_paper (aCons (eVar 4) (aCons (eVar 6) (aCons (eVar 9) aNil)))) (eC (.bl true)))) (tNt (toB (eCall 3 f_law_is_paper (aCons (eVar 4) (aCons (eVar 6) (aCons (eVar 9) aNil)))))))) (sRet (eC (.bl false))) sNx) (sSeq (sSet 10 (eCall 2 f_law_take (aCons (eVar 1) (aCons (eB oLen (aCons (eVar 6) aNil)) aNil)))) (sSeq (sSet 11 (eLstR (aCons (eC .non) (aCons (eTup aNil) (aCons (eB oList (aCons (eVar 9) aNil)) (aCons (eSl (eVar 9) pNone (pSome (eC (.int 1)))) (aCons (eOp oAdd (eVar 9) (eTup (aCons (eC (.int 0)) aNil))) (aCons (eOp oAdd (eTup (aCons (eC (.str [122, 111, 111])) aNil)) (eSl (eVar 9) (pSome (eC (.int 1))) pNone)) (aCons (eTup (aCons (eC (.str [107, 101, 112, 116])) (aCons (eVar 8) aNil))) (aCons (eTup (aCons (eC (.str [107, 101, 112, 116])) (aCons (eSl (eVar 8) (pSome (eC (.int 1))) pNone) aNil))) (aCons (eTup (aCons (eC (.str [107, 101, 112, 116])) (aCons (eB oList (aCons (eVar 8) aNil)) aNil))) (aCons (eTup (aCons (eC (.str [107, 101, 112, 116])) (aCons (eC .non) aNil))) (aCons (eTup (aCons (eC (.str [107, 101, 112, 116])) (aCons (eOp oAdd (eVar 8) (eTup (aCons (eC .non) aNil))) aNil))) aNil))))))))))))) (sSeq (sFor (iSrc (eOp oAdd (eLst (aCons (eC .non) (aCons (eC (.int 0)) (aCons (eC (.int 1)) (aCons (eC (.int 2)) (aCons (eC (.bl true)) (aCons (eNeg (eC (.int 1))) (aCons (eTup (aCons (eC (.int 0)) (aCons (eC (.int 1)) aNil))) (aCons (eTup (aCons (eC (.int 1)) (aCons (eC (.int 0)) aNil))) (aCons (eTup (aCons (eC (.int 1)) (aCons (eC (.int 2)) aNil))) (aCons (eLst (aCons (eC (.int 0)) (aCons (eC (.int 1)) aNil))) (aCons (eTup (aCons (eC (.int 0)) aNil)) (aCons (eC (.str [48])) aNil))))))))))))) (eSl (eB oList (aCons (eCall 2 f_law_shown (aCons (eVar 4) (aCons (eOp oIx (eVar 6) (eVar 10)) aNil))) aNil)) (pSome (eNeg (eC (.int 2)))) pNone))) (gN 12) (sE (eMt tyL oExtend (eVar 11) (aCons (eLst (aCons (eTup (aCons (eC (.str [107, 101, 112, 116])) (aCons (eOp oAdd (eOp oAdd (eSl (eVar 8) pNone (pSome (eVar 10))) (eTup (aCons (eVar 12) aNil))) (eSl (eVar 8) (pSome (eOp oAdd (eVar 10) (eC (.int 1)))) pNone)) aNil))) (aCons (eTup (aCons (eC (.str [98, 114, 111, 107, 101, 110])) (aCons (eVar 10) (aCons (eVar 12) aNil)))) aNil))) aNil)))) (sSeq (sE (eMt tyL oExtend (eVar 11) (aCons (eLst (aCons (eTup (aCons (eC (.str [98, 114, 111, 107, 101, 110])) (aCons (eB oLen (aCons (eVar 6) aNil)) (aCons (eC .non) aNil)))) (aCons (eTup (aCons (eC (.str [98, 114, 111, 107, 101, 110])) (aCons (eC (.bl true)) (aCons (eC .non) aNil)))) (aCons (eTup (aCons (eC (.str [98, 114, 111, 107, 101, 110])) (aCons (eNeg (eC (.int 1))) (aCons (eC .non) aNil)))) (aCons (eTup (aCons (eC (.str [98, 114, 111, 107, 101, 110])) (aCons (eC .non) (aCons (eC .non) aNil)))) aNil))))) aNil))) (sFor (iSrc (eVar 11)) (gN 13) (sSeq (sSet 14 (eCall 3 f_law_is_paper (aCons (eVar 4) (aCons (eVar 6) (aCons (eVar 13) aNil))))) (sIf (tOr_ (tNt (toB (eCall 2 f_law_alike (aCons (eCall 3 f_is_kept_paper (aCons (eVar 4) (aCons (eVar 6) (aCons (eVar 13) aNil)))) (aCons (eVar 14) aNil))))) (tAn (toB (eVar 14)) (toB (eOp oNe (eOp oEq (eOp oIx (eVar 13) (eC (.int 0))) (eC (.str [107, 101, 112, 116]))) (eOp oEq (eVar 7) (eLst aNil)))))) (sRet (eC (.bl false))) sNx))))))))))))))
def Env16 (ρ : Z.Env) : Prop := ∃ x0 x3 x4 x5 x6 x7 x8 x9 x10 x11 x12 x13 x14 x15, ρ = [x0, some (.ref 0), some nmsD, x3, x4, x5, x6, x7, x8, x9, x10, x11, x12, x13, x14, x15]
def oddL (m : Mp) (w : Ws) : List D := [.non, .int 0, .int 1, .int 2, .bl true, .int (-1), .tup [.int 0, .int 1], .tup [.int 1, .int 0], .tup [.int 1, .int 2], .lst [.int 0, .int 1], .tup [.int 0], .str [48]] ++ cut (shownL m w) (some (-2)) none
theorem odd_vl {m : Mp} {w : Ws} : ∀ d ∈ oddL m w, vl 3 d = true := by
  intro d hd
  rcases List.mem_append.mp hd with h | h
  · simp only [List.mem_cons, List.not_mem_nil, or_false] at h
    rcases h with rfl | rfl | rfl | rfl | rfl | rfl | rfl | rfl | rfl | rfl | rfl | rfl <;> rfl
  · exact vl_up (vl_shown m w d (mem_cut h)) (by decide)
def firstL (dl rl : List D) : List D := [.non, .tup [], .lst dl, .tup (cut dl none (some 1)), .tup (dl ++ [.int 0]), .tup ([.str [122, 111, 111]] ++ cut dl (some 1) none), .tup [.str sKept, .tup rl], .tup [.str sKept, .tup (cut rl (some 1) none)], .tup [.str sKept, .lst rl], .tup [.str sKept, .non], .tup [.str sKept, .tup (rl ++ [.non])]]
theorem two_vl {k : Nat} {d : D} (h : vl k d = true) : vl (k + 1) (.tup [.str sKept, d]) = true := vl_tup fun e he => by
  simp only [List.mem_cons, List.not_mem_nil, or_false] at he
  rcases he with rfl | rfl
  · exact vl_mk rfl rfl
  · exact h
theorem app_vl {k : Nat} {a b : List D} (ha : ∀ d ∈ a, vl k d = true) (hb : ∀ d ∈ b, vl k d = true) : ∀ d ∈ a ++ b, vl k d = true := fun d hd => (List.mem_append.mp hd).elim (ha d) (hb d)
theorem one_vl {k : Nat} {d : D} (h : vl k d = true) : ∀ e ∈ [d], vl k e = true := fun e he => by rw [List.mem_singleton] at he; subst he; exact h
theorem cut_vl {k : Nat} {l : List D} {a b : Option Int} (h : ∀ d ∈ l, vl k d = true) : ∀ d ∈ cut l a b, vl k d = true := fun d hd => h d (mem_cut hd)
theorem first_vl {dl rl : List D} (hd : ∀ d ∈ dl, vl 3 d = true) (hr : ∀ d ∈ rl, vl 3 d = true) : ∀ d ∈ firstL dl rl, vl 10 d = true := by
  intro d h
  simp only [firstL, List.mem_cons, List.not_mem_nil, or_false] at h
  rcases h with rfl | rfl | rfl | rfl | rfl | rfl | rfl | rfl | rfl | rfl | rfl
  · rfl
  · rfl
  · exact vl_up (vl_lst hd) (by decide)
  · exact vl_up (vl_tup (cut_vl hd)) (by decide)
  · exact vl_up (vl_tup (app_vl hd (one_vl rfl))) (by decide)
  · exact vl_up (vl_tup (app_vl (one_vl rfl) (cut_vl hd))) (by decide)
  · exact vl_up (two_vl (vl_tup hr)) (by decide)
  · exact vl_up (two_vl (vl_tup (cut_vl hr))) (by decide)
  · exact vl_up (two_vl (vl_lst hr)) (by decide)
  · rfl
  · exact vl_up (two_vl (vl_tup (app_vl hr (one_vl rfl)))) (by decide)
theorem rows_vl {m : Mp} {ws : List Ws} : ∀ d ∈ ws.map (rowD m), vl 3 d = true := fun d hd => by
  obtain ⟨w, _, rfl⟩ := List.mem_map.mp hd
  exact vl_up (vl_row m w) (by decide)
theorem lap {i : Int} {S : Sto} {ρ : Z.Env} (h : Bg S) (hρ : Env16 ρ) : ∃ ρ' S', turnS (gN 3) lapB (.int i) ρ S = .nx ρ' S' ∧ Env16 ρ' ∧ Bg S' := by
  obtain ⟨x0, x3, x4, x5, x6, x7, x8, x9, x10, x11, x12, x13, x14, x15, rfl⟩ := hρ
  obtain ⟨m, S1, e4, hm, n1⟩ := lmap_ok h
  obtain ⟨j, S2, e5a, hj, n2⟩ := tk (many := 4) n1.1 (by decide) (by decide)
  have e5a : f_law_take [.ref 0, .int 4] S1 = .ok (.int j) S2 := e5a
  obtain ⟨ws0, S3, e5, q5, l5, n3⟩ := eLc_eff (vs := [10]) (mi := (iRg1 (aCons (eOp oAdd (eC (.int 1)) (eCall 2 f_law_take (aCons (eVar 1) (aCons (eC (.int 4)) aNil)))) aNil))) (g := (gN 10)) (t := tYs) (e := (eCall 2 f_law_wish (aCons (eVar 1) (aCons (eVar 2) aNil)))) (ρ := [x0, some (.ref 0), some nmsD, some (.int i), some (mpD m), x5, x6, x7, x8, x9, x10, x11, x12, x13, x14, x15]) (S := S1) (S1 := S2) (ds := (List.range (1 + j)).map nD) (out := wsD) Ws.Ok2 (rg1_nat (by
    have : (1 : Int) + (j : Int) = ((1 + j : Nat) : Int) := by omega
    simp only [fnS, env0, sSeq, sSet, sRet, sRetN, sIf, sE, sAsg, sPar, sNx, sPut, R.toS, R.bind, eVar, eC, eOp, eTup, eLst, eLstR, aCons, aNil, eIf, eAn, eOr, eNt, eIsi, toB, tNt, tAn, tOr_, tYs, eCall, eCall0, eB, eMt, eMt0, iSrc, iRg1, iRg2, iEn, iZp, gN, gT, gsCons, gsNil, turnS, List.map_cons, List.map_nil, List.length_cons, List.length_nil, List.replicate, List.cons_append, List.nil_append, List.getElem?_cons_zero, List.getElem?_cons_succ, List.set_cons_zero, List.set_cons_succ, Nat.sub_self, Nat.reduceSub, Nat.reduceAdd, if_true, Bool.false_eq_true, if_false, ite_true, ite_false, List.cons.injEq, and_false, false_and, true_and, and_true, decide_false, decide_true, Bool.not_true, Bool.not_false, Bool.true_and, Bool.false_and, Bool.and_true, Bool.and_false, Bool.or_false, Bool.or_true, Bool.false_or, Bool.true_or, Nat.reduceEqDiff, reduceCtorEq, eSl, pSome, pNone, lcT, wipeE, fits_0, fits_1, fits_2, fits_3, fits_4, e5a, z_addI, this, nD]) (by omega)) n2 (fun d _ S hS => by
    obtain ⟨w, S', e, hb, nx⟩ := wish_ok hS
    exact ⟨w, S', by simp only [fnS, env0, sSeq, sSet, sRet, sRetN, sIf, sE, sAsg, sPar, sNx, sPut, R.toS, R.bind, eVar, eC, eOp, eTup, eLst, eLstR, aCons, aNil, eIf, eAn, eOr, eNt, eIsi, toB, tNt, tAn, tOr_, tYs, eCall, eCall0, eB, eMt, eMt0, iSrc, iRg1, iRg2, iEn, iZp, gN, gT, gsCons, gsNil, turnS, List.map_cons, List.map_nil, List.length_cons, List.length_nil, List.replicate, List.cons_append, List.nil_append, List.getElem?_cons_zero, List.getElem?_cons_succ, List.set_cons_zero, List.set_cons_succ, Nat.sub_self, Nat.reduceSub, Nat.reduceAdd, if_true, Bool.false_eq_true, if_false, ite_true, ite_false, List.cons.injEq, and_false, false_and, true_and, and_true, decide_false, decide_true, Bool.not_true, Bool.not_false, Bool.true_and, Bool.false_and, Bool.and_true, Bool.and_false, Bool.or_false, Bool.or_true, Bool.false_or, Bool.true_or, Nat.reduceEqDiff, reduceCtorEq, eSl, pSome, pNone, lcT, wipeE, fits_0, fits_1, fits_2, fits_3, fits_4, e], hb, nx⟩) (by rw [List.length_map, List.length_range]; omega)
  rw [List.length_map, List.length_range] at l5
  obtain ⟨ws, S4, e6, q6, l6, n4⟩ := eLc_eff (vs := [15]) (mi := (iSrc (eVar 5))) (g := (gN 15)) (t := tYs) (e := (eIf (tOr_ (toB (eOp oEq (eCall 2 f_law_take (aCons (eVar 1) (aCons (eC (.int 4)) aNil))) (eC (.int 0)))) (toB (eCall 2 f_law_keeps (aCons (eVar 4) (aCons (eVar 15) aNil))))) (eVar 15) (eCall 1 f_law_contrary (aCons (eVar 15) aNil)))) (ρ := [x0, some (.ref 0), some nmsD, some (.int i), some (mpD m), some (.lst (ws0.map wsD)), x6, x7, x8, x9, x10, x11, x12, x13, x14, x15]) (S := S3) (S1 := S3) (ds := ws0.map wsD) (out := wsD) Ws.Ok2 (by simp only [fnS, env0, sSeq, sSet, sRet, sRetN, sIf, sE, sAsg, sPar, sNx, sPut, R.toS, R.bind, eVar, eC, eOp, eTup, eLst, eLstR, aCons, aNil, eIf, eAn, eOr, eNt, eIsi, toB, tNt, tAn, tOr_, tYs, eCall, eCall0, eB, eMt, eMt0, iSrc, iRg1, iRg2, iEn, iZp, gN, gT, gsCons, gsNil, turnS, List.map_cons, List.map_nil, List.length_cons, List.length_nil, List.replicate, List.cons_append, List.nil_append, List.getElem?_cons_zero, List.getElem?_cons_succ, List.set_cons_zero, List.set_cons_succ, Nat.sub_self, Nat.reduceSub, Nat.reduceAdd, if_true, Bool.false_eq_true, if_false, ite_true, ite_false, List.cons.injEq, and_false, false_and, true_and, and_true, decide_false, decide_true, Bool.not_true, Bool.not_false, Bool.true_and, Bool.false_and, Bool.and_true, Bool.and_false, Bool.or_false, Bool.or_true, Bool.false_or, Bool.true_or, Nat.reduceEqDiff, reduceCtorEq, eSl, pSome, pNone, lcT, wipeE, fits_0, fits_1, fits_2, fits_3, fits_4, srcOf]) (Nxt.refl n3.1) (fun d hd S hS => by
    obtain ⟨w, hw, rfl⟩ := List.mem_map.mp hd
    obtain ⟨v, S', e, _, nx⟩ := tk (many := 4) hS (by decide) (by decide)
    have e : f_law_take [.ref 0, .int 4] S = .ok (.int v) S' := e
    by_cases hv : (v : Int) = 0
    · exact ⟨w, S', by simp only [fnS, env0, sSeq, sSet, sRet, sRetN, sIf, sE, sAsg, sPar, sNx, sPut, R.toS, R.bind, eVar, eC, eOp, eTup, eLst, eLstR, aCons, aNil, eIf, eAn, eOr, eNt, eIsi, toB, tNt, tAn, tOr_, tYs, eCall, eCall0, eB, eMt, eMt0, iSrc, iRg1, iRg2, iEn, iZp, gN, gT, gsCons, gsNil, turnS, List.map_cons, List.map_nil, List.length_cons, List.length_nil, List.replicate, List.cons_append, List.nil_append, List.getElem?_cons_zero, List.getElem?_cons_succ, List.set_cons_zero, List.set_cons_succ, Nat.sub_self, Nat.reduceSub, Nat.reduceAdd, if_true, Bool.false_eq_true, if_false, ite_true, ite_false, List.cons.injEq, and_false, false_and, true_and, and_true, decide_false, decide_true, Bool.not_true, Bool.not_false, Bool.true_and, Bool.false_and, Bool.and_true, Bool.and_false, Bool.or_false, Bool.or_true, Bool.false_or, Bool.true_or, Nat.reduceEqDiff, reduceCtorEq, eSl, pSome, pNone, lcT, wipeE, fits_0, fits_1, fits_2, fits_3, fits_4, e, z_eqi, decide_eq_true hv], q5 w hw, nx⟩
    · cases hkp : kept m w with
      | false => exact ⟨w.flip, S', by simp only [fnS, env0, sSeq, sSet, sRet, sRetN, sIf, sE, sAsg, sPar, sNx, sPut, R.toS, R.bind, eVar, eC, eOp, eTup, eLst, eLstR, aCons, aNil, eIf, eAn, eOr, eNt, eIsi, toB, tNt, tAn, tOr_, tYs, eCall, eCall0, eB, eMt, eMt0, iSrc, iRg1, iRg2, iEn, iZp, gN, gT, gsCons, gsNil, turnS, List.map_cons, List.map_nil, List.length_cons, List.length_nil, List.replicate, List.cons_append, List.nil_append, List.getElem?_cons_zero, List.getElem?_cons_succ, List.set_cons_zero, List.set_cons_succ, Nat.sub_self, Nat.reduceSub, Nat.reduceAdd, if_true, Bool.false_eq_true, if_false, ite_true, ite_false, List.cons.injEq, and_false, false_and, true_and, and_true, decide_false, decide_true, Bool.not_true, Bool.not_false, Bool.true_and, Bool.false_and, Bool.and_true, Bool.and_false, Bool.or_false, Bool.or_true, Bool.false_or, Bool.true_or, Nat.reduceEqDiff, reduceCtorEq, eSl, pSome, pNone, lcT, wipeE, fits_0, fits_1, fits_2, fits_3, fits_4, e, z_eqi, decide_eq_false hv, q_keeps hm (q5 w hw).ok, hkp, q_contrary], flip_ok (q5 w hw), nx⟩
      | true => exact ⟨w, S', by simp only [fnS, env0, sSeq, sSet, sRet, sRetN, sIf, sE, sAsg, sPar, sNx, sPut, R.toS, R.bind, eVar, eC, eOp, eTup, eLst, eLstR, aCons, aNil, eIf, eAn, eOr, eNt, eIsi, toB, tNt, tAn, tOr_, tYs, eCall, eCall0, eB, eMt, eMt0, iSrc, iRg1, iRg2, iEn, iZp, gN, gT, gsCons, gsNil, turnS, List.map_cons, List.map_nil, List.length_cons, List.length_nil, List.replicate, List.cons_append, List.nil_append, List.getElem?_cons_zero, List.getElem?_cons_succ, List.set_cons_zero, List.set_cons_succ, Nat.sub_self, Nat.reduceSub, Nat.reduceAdd, if_true, Bool.false_eq_true, if_false, ite_true, ite_false, List.cons.injEq, and_false, false_and, true_and, and_true, decide_false, decide_true, Bool.not_true, Bool.not_false, Bool.true_and, Bool.false_and, Bool.and_true, Bool.and_false, Bool.or_false, Bool.or_true, Bool.false_or, Bool.true_or, Nat.reduceEqDiff, reduceCtorEq, eSl, pSome, pNone, lcT, wipeE, fits_0, fits_1, fits_2, fits_3, fits_4, e, z_eqi, decide_eq_false hv, q_keeps hm (q5 w hw).ok, hkp], q5 w hw, nx⟩) (by rw [List.length_map]; omega)
  rw [List.length_map] at l6
  have hl : ws.length ≤ 4 := by omega
  have hpos : 0 < ws.length := by omega
  have hok : ∀ w ∈ ws, w.Ok := fun w hw => (q6 w hw).ok
  have e7 : (eLc [10, 15] (iEn (aCons (eVar 6) aNil)) (gT 2 (gsCons (gN 10) (gsCons (gN 15) gsNil))) (tNt (toB (eCall 2 f_law_keeps (aCons (eVar 4) (aCons (eVar 15) aNil))))) (eVar 10)) [x0, some (.ref 0), some nmsD, some (.int i), some (mpD m), some (.lst (ws0.map wsD)), some (wsDs ws), x7, x8, x9, x10, x11, x12, x13, x14, x15] S4 = .ok (.lst (brokenD m ws)) S4 := by
    refine eLc_f (emb := fun q : Int × Ws => .tup [.int q.1, wsD q.2]) (out := fun q => .int q.1) (fun q => !kept m q.2) (xs := numL 0 ws) ?_ (fun q hq => ?_) (by rw [numL_len]; omega)
    · simp only [fnS, env0, sSeq, sSet, sRet, sRetN, sIf, sE, sAsg, sPar, sNx, sPut, R.toS, R.bind, eVar, eC, eOp, eTup, eLst, eLstR, aCons, aNil, eIf, eAn, eOr, eNt, eIsi, toB, tNt, tAn, tOr_, tYs, eCall, eCall0, eB, eMt, eMt0, iSrc, iRg1, iRg2, iEn, iZp, gN, gT, gsCons, gsNil, turnS, List.map_cons, List.map_nil, List.length_cons, List.length_nil, List.replicate, List.cons_append, List.nil_append, List.getElem?_cons_zero, List.getElem?_cons_succ, List.set_cons_zero, List.set_cons_succ, Nat.sub_self, Nat.reduceSub, Nat.reduceAdd, if_true, Bool.false_eq_true, if_false, ite_true, ite_false, List.cons.injEq, and_false, false_and, true_and, and_true, decide_false, decide_true, Bool.not_true, Bool.not_false, Bool.true_and, Bool.false_and, Bool.and_true, Bool.and_false, Bool.or_false, Bool.or_true, Bool.false_or, Bool.true_or, Nat.reduceEqDiff, reduceCtorEq, eSl, pSome, pNone, lcT, wipeE, fits_0, fits_1, fits_2, fits_3, fits_4, wsDs, srcOf, lkE, numb_map]
    · simp only [gT, rd, fnS, env0, sSeq, sSet, sRet, sRetN, sIf, sE, sAsg, sPar, sNx, sPut, R.toS, R.bind, eVar, eC, eOp, eTup, eLst, eLstR, aCons, aNil, eIf, eAn, eOr, eNt, eIsi, toB, tNt, tAn, tOr_, tYs, eCall, eCall0, eB, eMt, eMt0, iSrc, iRg1, iRg2, iEn, iZp, gN, gT, gsCons, gsNil, turnS, List.map_cons, List.map_nil, List.length_cons, List.length_nil, List.replicate, List.cons_append, List.nil_append, List.getElem?_cons_zero, List.getElem?_cons_succ, List.set_cons_zero, List.set_cons_succ, Nat.sub_self, Nat.reduceSub, Nat.reduceAdd, if_true, Bool.false_eq_true, if_false, ite_true, ite_false, List.cons.injEq, and_false, false_and, true_and, and_true, decide_false, decide_true, Bool.not_true, Bool.not_false, Bool.true_and, Bool.false_and, Bool.and_true, Bool.and_false, Bool.or_false, Bool.or_true, Bool.false_or, Bool.true_or, Nat.reduceEqDiff, reduceCtorEq, eSl, pSome, pNone, lcT, wipeE, fits_0, fits_1, fits_2, fits_3, fits_4, q_keeps hm (hok _ (numL_mem hq))]
      exact ite_ok
  have e8 : (eLc [15] (iSrc (eVar 6)) (gN 15) tYs (eIf (toB (eOp oIn (eOp oIx (eVar 15) (eC (.int 0))) (eTup (aCons (eC (.str [115, 111, 109, 101])) (aCons (eC (.str [115, 101, 97, 109])) aNil))))) (eOp oIx (eOp oAdd (eCall 2 f_law_shown (aCons (eVar 4) (aCons (eVar 15) aNil))) (eTup (aCons (eC .non) aNil))) (eC (.int 0))) (eC .non))) [x0, some (.ref 0), some nmsD, some (.int i), some (mpD m), some (.lst (ws0.map wsD)), some (wsDs ws), some (.lst (brokenD m ws)), x8, x9, x10, x11, x12, x13, x14, x15] S4 = .ok (.lst (ws.map (rowD m))) S4 := by
    refine eLc_m (emb := wsD) (xs := ws) ?_ (fun w hw => ?_) (by omega)
    · simp only [fnS, env0, sSeq, sSet, sRet, sRetN, sIf, sE, sAsg, sPar, sNx, sPut, R.toS, R.bind, eVar, eC, eOp, eTup, eLst, eLstR, aCons, aNil, eIf, eAn, eOr, eNt, eIsi, toB, tNt, tAn, tOr_, tYs, eCall, eCall0, eB, eMt, eMt0, iSrc, iRg1, iRg2, iEn, iZp, gN, gT, gsCons, gsNil, turnS, List.map_cons, List.map_nil, List.length_cons, List.length_nil, List.replicate, List.cons_append, List.nil_append, List.getElem?_cons_zero, List.getElem?_cons_succ, List.set_cons_zero, List.set_cons_succ, Nat.sub_self, Nat.reduceSub, Nat.reduceAdd, if_true, Bool.false_eq_true, if_false, ite_true, ite_false, List.cons.injEq, and_false, false_and, true_and, and_true, decide_false, decide_true, Bool.not_true, Bool.not_false, Bool.true_and, Bool.false_and, Bool.and_true, Bool.and_false, Bool.or_false, Bool.or_true, Bool.false_or, Bool.true_or, Nat.reduceEqDiff, reduceCtorEq, eSl, pSome, pNone, lcT, wipeE, fits_0, fits_1, fits_2, fits_3, fits_4, wsDs, srcOf]
    · have hadd : oAdd (.tup (shownL m w)) (.tup [.non]) S4 = .ok (.tup (shownL m w ++ [.non])) S4 := z_addT (by have := shown_len hm w; rw [List.length_singleton]; omega)
      unfold rowD
      cases hg : w.neg with
      | true => simp only [fnS, env0, sSeq, sSet, sRet, sRetN, sIf, sE, sAsg, sPar, sNx, sPut, R.toS, R.bind, eVar, eC, eOp, eTup, eLst, eLstR, aCons, aNil, eIf, eAn, eOr, eNt, eIsi, toB, tNt, tAn, tOr_, tYs, eCall, eCall0, eB, eMt, eMt0, iSrc, iRg1, iRg2, iEn, iZp, gN, gT, gsCons, gsNil, turnS, List.map_cons, List.map_nil, List.length_cons, List.length_nil, List.replicate, List.cons_append, List.nil_append, List.getElem?_cons_zero, List.getElem?_cons_succ, List.set_cons_zero, List.set_cons_succ, Nat.sub_self, Nat.reduceSub, Nat.reduceAdd, if_true, Bool.false_eq_true, if_false, ite_true, ite_false, List.cons.injEq, and_false, false_and, true_and, and_true, decide_false, decide_true, Bool.not_true, Bool.not_false, Bool.true_and, Bool.false_and, Bool.and_true, Bool.and_false, Bool.or_false, Bool.or_true, Bool.false_or, Bool.true_or, Nat.reduceEqDiff, reduceCtorEq, eSl, pSome, pNone, lcT, wipeE, fits_0, fits_1, fits_2, fits_3, fits_4, ws_0, in_ask, hg, show fits 2 = true from rfl]
      | false => simp only [fnS, env0, sSeq, sSet, sRet, sRetN, sIf, sE, sAsg, sPar, sNx, sPut, R.toS, R.bind, eVar, eC, eOp, eTup, eLst, eLstR, aCons, aNil, eIf, eAn, eOr, eNt, eIsi, toB, tNt, tAn, tOr_, tYs, eCall, eCall0, eB, eMt, eMt0, iSrc, iRg1, iRg2, iEn, iZp, gN, gT, gsCons, gsNil, turnS, List.map_cons, List.map_nil, List.length_cons, List.length_nil, List.replicate, List.cons_append, List.nil_append, List.getElem?_cons_zero, List.getElem?_cons_succ, List.set_cons_zero, List.set_cons_succ, Nat.sub_self, Nat.reduceSub, Nat.reduceAdd, if_true, Bool.false_eq_true, if_false, ite_true, ite_false, List.cons.injEq, and_false, false_and, true_and, and_true, decide_false, decide_true, Bool.not_true, Bool.not_false, Bool.true_and, Bool.false_and, Bool.and_true, Bool.and_false, Bool.or_false, Bool.or_true, Bool.false_or, Bool.true_or, Nat.reduceEqDiff, reduceCtorEq, eSl, pSome, pNone, lcT, wipeE, fits_0, fits_1, fits_2, fits_3, fits_4, ws_0, in_ask, hg, show fits 2 = true from rfl, show fits 1 = true from rfl, q_shown hm (hok w hw), hadd, ix_hd]
  have hbs := brokL_shp m ws
  have e9 : (eIf (toB (eOp oEq (eVar 7) (eLst aNil))) (eTup (aCons (eC (.str [107, 101, 112, 116])) (aCons (eVar 8) aNil))) (eTup (aCons (eC (.str [98, 114, 111, 107, 101, 110])) (aCons (eOp oIx (eVar 7) (eC (.int 0))) (aCons (eIf (toB (eOp oIn (eOp oIx (eOp oIx (eVar 6) (eOp oIx (eVar 7) (eC (.int 0)))) (eC (.int 0))) (eTup (aCons (eC (.str [115, 111, 109, 101])) (aCons (eC (.str [115, 101, 97, 109])) aNil))))) (eC .non) (eOp oIx (eCall 2 f_law_shown (aCons (eVar 4) (aCons (eOp oIx (eVar 6) (eOp oIx (eVar 7) (eC (.int 0)))) aNil))) (eC (.int 0)))) aNil))))) [x0, some (.ref 0), some nmsD, some (.int i), some (mpD m), some (.lst (ws0.map wsD)), some (wsDs ws), some (.lst (brokenD m ws)), some (.tup (ws.map (rowD m))), x9, x10, x11, x12, x13, x14, x15] S4 = .ok (.tup (dueL m ws)) S4 := by
    unfold dueL
    cases hb : brokenL m ws with
    | nil =>
      have hB : brokenD m ws = [] := by unfold brokenD; rw [hb]; rfl
      rw [hB]
      simp only [fnS, env0, sSeq, sSet, sRet, sRetN, sIf, sE, sAsg, sPar, sNx, sPut, R.toS, R.bind, eVar, eC, eOp, eTup, eLst, eLstR, aCons, aNil, eIf, eAn, eOr, eNt, eIsi, toB, tNt, tAn, tOr_, tYs, eCall, eCall0, eB, eMt, eMt0, iSrc, iRg1, iRg2, iEn, iZp, gN, gT, gsCons, gsNil, turnS, List.map_cons, List.map_nil, List.length_cons, List.length_nil, List.replicate, List.cons_append, List.nil_append, List.getElem?_cons_zero, List.getElem?_cons_succ, List.set_cons_zero, List.set_cons_succ, Nat.sub_self, Nat.reduceSub, Nat.reduceAdd, if_true, Bool.false_eq_true, if_false, ite_true, ite_false, List.cons.injEq, and_false, false_and, true_and, and_true, decide_false, decide_true, Bool.not_true, Bool.not_false, Bool.true_and, Bool.false_and, Bool.and_true, Bool.and_false, Bool.or_false, Bool.or_true, Bool.false_or, Bool.true_or, Nat.reduceEqDiff, reduceCtorEq, eSl, pSome, pNone, lcT, wipeE, fits_0, fits_1, fits_2, fits_3, fits_4, show ∀ S, oEq (.lst []) (.lst []) S = .ok (.bl true) S from fun _ => rfl, show fits 0 = true from rfl, show fits 2 = true from rfl, sKept]
    | cons q r =>
      have hB : brokenD m ws = .int q.1 :: r.map fun q => .int q.1 := by unfold brokenD; rw [hb]; rfl
      have hq : q ∈ brokenL m ws := by rw [hb]; exact List.mem_cons_self
      obtain ⟨hq1, hq2⟩ := List.mem_filter.mp hq
      have hwq := hok _ (numL_mem hq1)
      have hk : kept m q.2 = false := by simpa using hq2
      rw [hB] at hbs
      have hE := fun S => eq_nil (S := S) hbs
      rw [hB]
      cases hg : q.2.neg with
      | false =>
        simp only [fnS, env0, sSeq, sSet, sRet, sRetN, sIf, sE, sAsg, sPar, sNx, sPut, R.toS, R.bind, eVar, eC, eOp, eTup, eLst, eLstR, aCons, aNil, eIf, eAn, eOr, eNt, eIsi, toB, tNt, tAn, tOr_, tYs, eCall, eCall0, eB, eMt, eMt0, iSrc, iRg1, iRg2, iEn, iZp, gN, gT, gsCons, gsNil, turnS, List.map_cons, List.map_nil, List.length_cons, List.length_nil, List.replicate, List.cons_append, List.nil_append, List.getElem?_cons_zero, List.getElem?_cons_succ, List.set_cons_zero, List.set_cons_succ, Nat.sub_self, Nat.reduceSub, Nat.reduceAdd, if_true, Bool.false_eq_true, if_false, ite_true, ite_false, List.cons.injEq, and_false, false_and, true_and, and_true, decide_false, decide_true, Bool.not_true, Bool.not_false, Bool.true_and, Bool.false_and, Bool.and_true, Bool.and_false, Bool.or_false, Bool.or_true, Bool.false_or, Bool.true_or, Nat.reduceEqDiff, reduceCtorEq, eSl, pSome, pNone, lcT, wipeE, fits_0, fits_1, fits_2, fits_3, fits_4, show fits 0 = true from rfl, hE, List.isEmpty_cons, z_l0, brok_get hq, ws_0, in_ask, hg, show fits 2 = true from rfl, show fits 3 = true from rfl, sBroken]
      | true =>
        have hx : ∀ S, oIx (.tup (shownL m q.2)) (.int 0) S = .ok (hdD (shownL m q.2)) S := fun S => by
          have : has m q.2 = true := by unfold kept at hk; rw [hg] at hk; simpa using hk
          unfold has at this
          revert this
          cases shownL m q.2 with
          | nil => intro h; cases h
          | cons d ds => intro _; exact z_t0
        simp only [fnS, env0, sSeq, sSet, sRet, sRetN, sIf, sE, sAsg, sPar, sNx, sPut, R.toS, R.bind, eVar, eC, eOp, eTup, eLst, eLstR, aCons, aNil, eIf, eAn, eOr, eNt, eIsi, toB, tNt, tAn, tOr_, tYs, eCall, eCall0, eB, eMt, eMt0, iSrc, iRg1, iRg2, iEn, iZp, gN, gT, gsCons, gsNil, turnS, List.map_cons, List.map_nil, List.length_cons, List.length_nil, List.replicate, List.cons_append, List.nil_append, List.getElem?_cons_zero, List.getElem?_cons_succ, List.set_cons_zero, List.set_cons_succ, Nat.sub_self, Nat.reduceSub, Nat.reduceAdd, if_true, Bool.false_eq_true, if_false, ite_true, ite_false, List.cons.injEq, and_false, false_and, true_and, and_true, decide_false, decide_true, Bool.not_true, Bool.not_false, Bool.true_and, Bool.false_and, Bool.and_true, Bool.and_false, Bool.or_false, Bool.or_true, Bool.false_or, Bool.true_or, Nat.reduceEqDiff, reduceCtorEq, eSl, pSome, pNone, lcT, wipeE, fits_0, fits_1, fits_2, fits_3, fits_4, show fits 0 = true from rfl, hE, List.isEmpty_cons, z_l0, brok_get hq, ws_0, in_ask, hg, show fits 2 = true from rfl, show fits 3 = true from rfl, q_shown hm hwq, hx, sBroken]
  have hdl : dueD m ws = .tup (dueL m ws) := due_L m ws
  have hdv : val (.tup (dueL m ws)) = true := by rw [← hdl]; exact vl_up (n := 50) (due_shp m ws) (by decide)
  have hdp : isPaper m ws (.tup (dueL m ws)) = true := by rw [← hdl]; exact due_paper m ws
  have hds : ∀ S, alike [.tup (dueL m ws), .tup (dueL m ws)] S = .ok (.bl true) S := fun S => by
    rw [← hdl]
    exact alike_same (due_nrf m ws) (shp_mono _ (by decide) (vl_2 (due_shp m ws))) (wt_due hm hl)
  obtain ⟨k, S5, e10, hk, n5⟩ := tk (many := ws.length) n4.1 hpos (by omega)
  have hdL := dueL_len m ws
  have hK0 : S5.len ≠ 0 := by have := n5.1.pos; omega
  have n6 : Nxt S5 (S5.push (.lst (firstL (dueL m ws) (ws.map (rowD m))))) := Nxt.push n5.1
  have hwk : ∀ S, oIx (wsDs ws) (.int k) S = .ok (wsD ws[k]) S := fun S => z_ixT (by omega) (by simp [hk])
  have hokk := hok ws[k] (List.getElem_mem hk)
  have hsl := shown_len hm ws[k]
  have hol : (oddL m ws[k]).length ≤ 1012 := by
    unfold oddL
    have := cut_len (shownL m ws[k]) (some (-2)) none
    rw [List.length_append]
    simp only [List.length_cons, List.length_nil]
    omega
  obtain ⟨ρ7, S7, e12, ⟨y12, hρ7⟩, nx7, T, hT1, hT2, hT3⟩ := forS_inv (emb := fun d : D => d) (turn := turnS (gN 12) (sE (eMt tyL oExtend (eVar 11) (aCons (eLst (aCons (eTup (aCons (eC (.str [107, 101, 112, 116])) (aCons (eOp oAdd (eOp oAdd (eSl (eVar 8) pNone (pSome (eVar 10))) (eTup (aCons (eVar 12) aNil))) (eSl (eVar 8) (pSome (eOp oAdd (eVar 10) (eC (.int 1)))) pNone)) aNil))) (aCons (eTup (aCons (eC (.str [98, 114, 111, 107, 101, 110])) (aCons (eVar 10) (aCons (eVar 12) aNil)))) aNil))) aNil))))
    (fun done ρ S' => (∃ y12, ρ = [x0, some (.ref 0), some nmsD, some (.int i), some (mpD m), some (.lst (ws0.map wsD)), some (wsDs ws), some (.lst (brokenD m ws)), some (.tup (ws.map (rowD m))), some (.tup (dueL m ws)), some (.int k), some (.ref S5.len), y12, x13, x14, x15]) ∧ Nxt S5 S' ∧ ∃ T, S'.get S5.len = some (.lst T) ∧ (∀ d ∈ T, vl 10 d = true) ∧ T.length ≤ 11 + 2 * done.length)
    (oddL m ws[k]) [x0, some (.ref 0), some nmsD, some (.int i), some (mpD m), some (.lst (ws0.map wsD)), some (wsDs ws), some (.lst (brokenD m ws)), some (.tup (ws.map (rowD m))), some (.tup (dueL m ws)), some (.int k), some (.ref S5.len), x12, x13, x14, x15] (S5.push (.lst (firstL (dueL m ws) (ws.map (rowD m))))) (by
      rintro done x rest ρ S' hw ⟨⟨y12, rfl⟩, nx, T, hT1, hT2, hT3⟩
      have hx : vl 3 x = true := odd_vl x (by rw [← hw]; simp)
      have hdn : done.length ≤ 1012 := by have := congrArg List.length hw; rw [List.length_append] at this; omega
      have c1 := cut_len (ws.map (rowD m)) none (some (k : Int))
      have c2 := cut_len (ws.map (rowD m)) (some ((k : Int) + 1)) none
      rw [List.length_map] at c1 c2
      have hr := rows_vl (m := m) (ws := ws)
      refine ⟨[x0, some (.ref 0), some nmsD, some (.int i), some (mpD m), some (.lst (ws0.map wsD)), some (wsDs ws), some (.lst (brokenD m ws)), some (.tup (ws.map (rowD m))), some (.tup (dueL m ws)), some (.int k), some (.ref S5.len), some x, x13, x14, x15], S'.set S5.len (.lst (T ++ [.tup [.str sKept, .tup (cut (ws.map (rowD m)) none (some (k : Int)) ++ [x] ++ cut (ws.map (rowD m)) (some ((k : Int) + 1)) none)], .tup [.str sBroken, .int k, x]])), ?_, ⟨_, rfl⟩, nx.setk (Nat.le_refl _) hK0, _, Sto.get_set_self nx.1.1 (Sto.get_lt hT1), ?_, ?_⟩
      · have a1 : ∀ S, oAdd (.tup (cut (ws.map (rowD m)) none (some (k : Int)))) (.tup [x]) S = .ok (.tup (cut (ws.map (rowD m)) none (some (k : Int)) ++ [x])) S := fun S => z_addT (by rw [List.length_singleton]; omega)
        have a2 : ∀ S, oAdd (.tup (cut (ws.map (rowD m)) none (some (k : Int)) ++ [x])) (.tup (cut (ws.map (rowD m)) (some ((k : Int) + 1)) none)) S = .ok (.tup (cut (ws.map (rowD m)) none (some (k : Int)) ++ [x] ++ cut (ws.map (rowD m)) (some ((k : Int) + 1)) none)) S := fun S => z_addT (by rw [List.length_append, List.length_singleton]; omega)
        have a3 : oExtend (.ref S5.len) [.lst [.tup [.str sKept, .tup (cut (ws.map (rowD m)) none (some (k : Int)) ++ [x] ++ cut (ws.map (rowD m)) (some ((k : Int) + 1)) none)], .tup [.str sBroken, .int k, x]]] S' = .ok .non (S'.set S5.len (.lst (T ++ [.tup [.str sKept, .tup (cut (ws.map (rowD m)) none (some (k : Int)) ++ [x] ++ cut (ws.map (rowD m)) (some ((k : Int) + 1)) none)], .tup [.str sBroken, .int k, x]]))) := ext_k hT1 (by simp only [List.length_cons, List.length_nil]; omega)
        simp only [turnS, fnS, env0, sSeq, sSet, sRet, sRetN, sIf, sE, sAsg, sPar, sNx, sPut, R.toS, R.bind, eVar, eC, eOp, eTup, eLst, eLstR, aCons, aNil, eIf, eAn, eOr, eNt, eIsi, toB, tNt, tAn, tOr_, tYs, eCall, eCall0, eB, eMt, eMt0, iSrc, iRg1, iRg2, iEn, iZp, gN, gT, gsCons, gsNil, turnS, List.map_cons, List.map_nil, List.length_cons, List.length_nil, List.replicate, List.cons_append, List.nil_append, List.getElem?_cons_zero, List.getElem?_cons_succ, List.set_cons_zero, List.set_cons_succ, Nat.sub_self, Nat.reduceSub, Nat.reduceAdd, if_true, Bool.false_eq_true, if_false, ite_true, ite_false, List.cons.injEq, and_false, false_and, true_and, and_true, decide_false, decide_true, Bool.not_true, Bool.not_false, Bool.true_and, Bool.false_and, Bool.and_true, Bool.and_false, Bool.or_false, Bool.or_true, Bool.false_or, Bool.true_or, Nat.reduceEqDiff, reduceCtorEq, eSl, pSome, pNone, lcT, wipeE, fits_0, fits_1, fits_2, fits_3, fits_4, show ∀ (l : List D) a b S, oSl (.tup l) a b S = .ok (.tup (cut l a b)) S from fun _ _ _ _ => rfl, z_addI, show fits 1 = true from rfl, show fits 2 = true from rfl, show fits 3 = true from rfl, tyL_k hT1, sKept, sBroken, a1, a2] at a3 ⊢
        simp only [a3, R.toS]
      · refine app_vl hT2 fun d hd => ?_
        simp only [List.mem_cons, List.not_mem_nil, or_false] at hd
        rcases hd with rfl | rfl
        · exact vl_up (two_vl (vl_tup (app_vl (app_vl (cut_vl hr) (one_vl hx)) (cut_vl hr)))) (by decide)
        · refine vl_up (k := 4) (vl_tup fun d hd => ?_) (by decide)
          simp only [List.mem_cons, List.not_mem_nil, or_false] at hd
          rcases hd with rfl | rfl | rfl
          · rfl
          · rfl
          · exact hx
      · simp only [List.length_append, List.length_cons, List.length_nil]; omega) ⟨⟨_, rfl⟩, n6, _, Sto.get_push_self, first_vl (dueL_vl m ws) rows_vl, by simp [firstL]⟩
  subst hρ7
  rw [List.map_id'] at e12
  have hT4 : T.length ≤ 3000 := by omega
  have e13 : oExtend (.ref S5.len) [.lst [.tup [.str sBroken, .int (wsDs ws |> fun _ => (ws.length : Int)), .non], .tup [.str sBroken, .bl true, .non], .tup [.str sBroken, .int (-1), .non], .tup [.str sBroken, .non, .non]]] S7 = .ok .non (S7.set S5.len (.lst (T ++ [.tup [.str sBroken, .int ws.length, .non], .tup [.str sBroken, .bl true, .non], .tup [.str sBroken, .int (-1), .non], .tup [.str sBroken, .non, .non]]))) := ext_k hT1 (by simp only [List.length_cons, List.length_nil]; omega)
  have n8 : Nxt S5 (S7.set S5.len (.lst (T ++ [.tup [.str sBroken, .int ws.length, .non], .tup [.str sBroken, .bl true, .non], .tup [.str sBroken, .int (-1), .non], .tup [.str sBroken, .non, .non]]))) := nx7.setk (Nat.le_refl _) hK0
  have hT5 : (S7.set S5.len (.lst (T ++ [.tup [.str sBroken, .int ws.length, .non], .tup [.str sBroken, .bl true, .non], .tup [.str sBroken, .int (-1), .non], .tup [.str sBroken, .non, .non]]))).get S5.len = some (.lst (T ++ [.tup [.str sBroken, .int ws.length, .non], .tup [.str sBroken, .bl true, .non], .tup [.str sBroken, .int (-1), .non], .tup [.str sBroken, .non, .non]])) := Sto.get_set_self nx7.1.1 (Sto.get_lt hT1)
  have hT6 : ∀ d ∈ T ++ [.tup [.str sBroken, .int ws.length, .non], .tup [.str sBroken, .bl true, .non], .tup [.str sBroken, .int (-1), .non], .tup [.str sBroken, .non, .non]], vl 10 d = true := app_vl hT2 fun d hd => by
    simp only [List.mem_cons, List.not_mem_nil, or_false] at hd
    rcases hd with rfl | rfl | rfl | rfl <;> rfl
  revert hT6 hT5 n8 e13
  generalize (T ++ [.tup [.str sBroken, .int ws.length, .non], .tup [.str sBroken, .bl true, .non], .tup [.str sBroken, .int (-1), .non], .tup [.str sBroken, .non, .non]]) = T'
  generalize hS8 : S7.set S5.len (.lst T') = S8
  intro e13 n8 hT5 hT6
  obtain ⟨ρ9, e14, y13, y14, hρ9⟩ := sFor_ref (mi := (iSrc (eVar 11))) (g := (gN 13)) (body := (sSeq (sSet 14 (eCall 3 f_law_is_paper (aCons (eVar 4) (aCons (eVar 6) (aCons (eVar 13) aNil))))) (sIf (tOr_ (tNt (toB (eCall 2 f_law_alike (aCons (eCall 3 f_is_kept_paper (aCons (eVar 4) (aCons (eVar 6) (aCons (eVar 13) aNil)))) (aCons (eVar 14) aNil))))) (tAn (toB (eVar 14)) (toB (eOp oNe (eOp oEq (eOp oIx (eVar 13) (eC (.int 0))) (eC (.str [107, 101, 112, 116]))) (eOp oEq (eVar 7) (eLst aNil)))))) (sRet (eC (.bl false))) sNx))) (ρ := [x0, some (.ref 0), some nmsD, some (.int i), some (mpD m), some (.lst (ws0.map wsD)), some (wsDs ws), some (.lst (brokenD m ws)), some (.tup (ws.map (rowD m))), some (.tup (dueL m ws)), some (.int k), some (.ref S5.len), y12, x13, x14, x15]) (S := S8) (n := S5.len) (ds := T') (by
      simp only [fnS, env0, sSeq, sSet, sRet, sRetN, sIf, sE, sAsg, sPar, sNx, sPut, R.toS, R.bind, eVar, eC, eOp, eTup, eLst, eLstR, aCons, aNil, eIf, eAn, eOr, eNt, eIsi, toB, tNt, tAn, tOr_, tYs, eCall, eCall0, eB, eMt, eMt0, iSrc, iRg1, iRg2, iEn, iZp, gN, gT, gsCons, gsNil, turnS, List.map_cons, List.map_nil, List.length_cons, List.length_nil, List.replicate, List.cons_append, List.nil_append, List.getElem?_cons_zero, List.getElem?_cons_succ, List.set_cons_zero, List.set_cons_succ, Nat.sub_self, Nat.reduceSub, Nat.reduceAdd, if_true, Bool.false_eq_true, if_false, ite_true, ite_false, List.cons.injEq, and_false, false_and, true_and, and_true, decide_false, decide_true, Bool.not_true, Bool.not_false, Bool.true_and, Bool.false_and, Bool.and_true, Bool.and_false, Bool.or_false, Bool.or_true, Bool.false_or, Bool.true_or, Nat.reduceEqDiff, reduceCtorEq, eSl, pSome, pNone, lcT, wipeE, fits_0, fits_1, fits_2, fits_3, fits_4, srcOf, hT5]) hT5 (fun ρ => ∃ y13 y14, ρ = [x0, some (.ref 0), some nmsD, some (.int i), some (mpD m), some (.lst (ws0.map wsD)), some (wsDs ws), some (.lst (brokenD m ws)), some (.tup (ws.map (rowD m))), some (.tup (dueL m ws)), some (.int k), some (.ref S5.len), y12, y13, y14, x15]) (by
      rintro d hd ρ ⟨y13, y14, rfl⟩
      have hv := vl_val (hT6 d hd)
      refine ⟨[x0, some (.ref 0), some nmsD, some (.int i), some (mpD m), some (.lst (ws0.map wsD)), some (wsDs ws), some (.lst (brokenD m ws)), some (.tup (ws.map (rowD m))), some (.tup (dueL m ws)), some (.int k), some (.ref S5.len), y12, some d, some (.bl (isPaper m ws d)), x15], ?_, ⟨_, _, rfl⟩⟩
      refine sq_nx (st_set (d := .bl (isPaper m ws d)) (S' := S8) (by simp only [fnS, env0, sSeq, sSet, sRet, sRetN, sIf, sE, sAsg, sPar, sNx, sPut, R.toS, R.bind, eVar, eC, eOp, eTup, eLst, eLstR, aCons, aNil, eIf, eAn, eOr, eNt, eIsi, toB, tNt, tAn, tOr_, tYs, eCall, eCall0, eB, eMt, eMt0, iSrc, iRg1, iRg2, iEn, iZp, gN, gT, gsCons, gsNil, turnS, List.map_cons, List.map_nil, List.length_cons, List.length_nil, List.replicate, List.cons_append, List.nil_append, List.getElem?_cons_zero, List.getElem?_cons_succ, List.set_cons_zero, List.set_cons_succ, Nat.sub_self, Nat.reduceSub, Nat.reduceAdd, if_true, Bool.false_eq_true, if_false, ite_true, ite_false, List.cons.injEq, and_false, false_and, true_and, and_true, decide_false, decide_true, Bool.not_true, Bool.not_false, Bool.true_and, Bool.false_and, Bool.and_true, Bool.and_false, Bool.or_false, Bool.or_true, Bool.false_or, Bool.true_or, Nat.reduceEqDiff, reduceCtorEq, eSl, pSome, pNone, lcT, wipeE, fits_0, fits_1, fits_2, fits_3, fits_4, q_is_paper hm hok hv])) (st_iff (S' := S8) ?_ st_nx)
      cases hp : isPaper m ws d with
      | false => simp only [fnS, env0, sSeq, sSet, sRet, sRetN, sIf, sE, sAsg, sPar, sNx, sPut, R.toS, R.bind, eVar, eC, eOp, eTup, eLst, eLstR, aCons, aNil, eIf, eAn, eOr, eNt, eIsi, toB, tNt, tAn, tOr_, tYs, eCall, eCall0, eB, eMt, eMt0, iSrc, iRg1, iRg2, iEn, iZp, gN, gT, gsCons, gsNil, turnS, List.map_cons, List.map_nil, List.length_cons, List.length_nil, List.replicate, List.cons_append, List.nil_append, List.getElem?_cons_zero, List.getElem?_cons_succ, List.set_cons_zero, List.set_cons_succ, Nat.sub_self, Nat.reduceSub, Nat.reduceAdd, if_true, Bool.false_eq_true, if_false, ite_true, ite_false, List.cons.injEq, and_false, false_and, true_and, and_true, decide_false, decide_true, Bool.not_true, Bool.not_false, Bool.true_and, Bool.false_and, Bool.and_true, Bool.and_false, Bool.or_false, Bool.or_true, Bool.false_or, Bool.true_or, Nat.reduceEqDiff, reduceCtorEq, eSl, pSome, pNone, lcT, wipeE, fits_0, fits_1, fits_2, fits_3, fits_4, p_is_kept_paper hm q6 (by omega) hv, hp, show f_law_alike = alike from rfl, alike_bl]
      | true =>
        obtain ⟨s, r, rfl, hs⟩ := paper_kind hp
        have hbs := brokL_shp m ws
        simp only [fnS, env0, sSeq, sSet, sRet, sRetN, sIf, sE, sAsg, sPar, sNx, sPut, R.toS, R.bind, eVar, eC, eOp, eTup, eLst, eLstR, aCons, aNil, eIf, eAn, eOr, eNt, eIsi, toB, tNt, tAn, tOr_, tYs, eCall, eCall0, eB, eMt, eMt0, iSrc, iRg1, iRg2, iEn, iZp, gN, gT, gsCons, gsNil, turnS, List.map_cons, List.map_nil, List.length_cons, List.length_nil, List.replicate, List.cons_append, List.nil_append, List.getElem?_cons_zero, List.getElem?_cons_succ, List.set_cons_zero, List.set_cons_succ, Nat.sub_self, Nat.reduceSub, Nat.reduceAdd, if_true, Bool.false_eq_true, if_false, ite_true, ite_false, List.cons.injEq, and_false, false_and, true_and, and_true, decide_false, decide_true, Bool.not_true, Bool.not_false, Bool.true_and, Bool.false_and, Bool.and_true, Bool.and_false, Bool.or_false, Bool.or_true, Bool.false_or, Bool.true_or, Nat.reduceEqDiff, reduceCtorEq, eSl, pSome, pNone, lcT, wipeE, fits_0, fits_1, fits_2, fits_3, fits_4, p_is_kept_paper hm q6 (by omega) hv, hp, show f_law_alike = alike from rfl, alike_bl, z_t0, z_eqs, show fits 0 = true from rfl, eq_nil hbs, z_neB, show ([107, 101, 112, 116] : List Nat) = sKept from rfl, hs, bne_self_eq_false]) ⟨_, _, rfl⟩
  subst hρ9
  refine ⟨[x0, some (.ref 0), some nmsD, some (.int i), some (mpD m), some (.lst (ws0.map wsD)), some (wsDs ws), some (.lst (brokenD m ws)), some (.tup (ws.map (rowD m))), some (.tup (dueL m ws)), some (.int k), some (.ref S5.len), y12, y13, y14, x15], S8, ?_, ⟨_, _, _, _, _, _, _, _, _, _, _, _, _, _, rfl⟩, n8.1⟩
  show lapB [x0, some (.ref 0), some nmsD, some (.int i), x4, x5, x6, x7, x8, x9, x10, x11, x12, x13, x14, x15] S = _
  unfold lapB
  refine sq_nx (st_set (d := mpD m) (S' := S1) (by simp only [fnS, env0, sSeq, sSet, sRet, sRetN, sIf, sE, sAsg, sPar, sNx, sPut, R.toS, R.bind, eVar, eC, eOp, eTup, eLst, eLstR, aCons, aNil, eIf, eAn, eOr, eNt, eIsi, toB, tNt, tAn, tOr_, tYs, eCall, eCall0, eB, eMt, eMt0, iSrc, iRg1, iRg2, iEn, iZp, gN, gT, gsCons, gsNil, turnS, List.map_cons, List.map_nil, List.length_cons, List.length_nil, List.replicate, List.cons_append, List.nil_append, List.getElem?_cons_zero, List.getElem?_cons_succ, List.set_cons_zero, List.set_cons_succ, Nat.sub_self, Nat.reduceSub, Nat.reduceAdd, if_true, Bool.false_eq_true, if_false, ite_true, ite_false, List.cons.injEq, and_false, false_and, true_and, and_true, decide_false, decide_true, Bool.not_true, Bool.not_false, Bool.true_and, Bool.false_and, Bool.and_true, Bool.and_false, Bool.or_false, Bool.or_true, Bool.false_or, Bool.true_or, Nat.reduceEqDiff, reduceCtorEq, eSl, pSome, pNone, lcT, wipeE, fits_0, fits_1, fits_2, fits_3, fits_4, e4])) ?_
  refine sq_nx (st_set (d := .lst (ws0.map wsD)) (S' := S3) e5) ?_
  refine sq_nx (st_set (d := wsDs ws) (S' := S4) ?_) ?_
  · show (eB oTuple (aCons _ aNil)) [x0, some (.ref 0), some nmsD, some (.int i), some (mpD m), some (.lst (ws0.map wsD)), x6, x7, x8, x9, x10, x11, x12, x13, x14, x15] S3 = _
    revert e6
    generalize eLc _ _ _ _ _ = E
    intro e6
    simp only [fnS, env0, sSeq, sSet, sRet, sRetN, sIf, sE, sAsg, sPar, sNx, sPut, R.toS, R.bind, eVar, eC, eOp, eTup, eLst, eLstR, aCons, aNil, eIf, eAn, eOr, eNt, eIsi, toB, tNt, tAn, tOr_, tYs, eCall, eCall0, eB, eMt, eMt0, iSrc, iRg1, iRg2, iEn, iZp, gN, gT, gsCons, gsNil, turnS, List.map_cons, List.map_nil, List.length_cons, List.length_nil, List.replicate, List.cons_append, List.nil_append, List.getElem?_cons_zero, List.getElem?_cons_succ, List.set_cons_zero, List.set_cons_succ, Nat.sub_self, Nat.reduceSub, Nat.reduceAdd, if_true, Bool.false_eq_true, if_false, ite_true, ite_false, List.cons.injEq, and_false, false_and, true_and, and_true, decide_false, decide_true, Bool.not_true, Bool.not_false, Bool.true_and, Bool.false_and, Bool.and_true, Bool.and_false, Bool.or_false, Bool.or_true, Bool.false_or, Bool.true_or, Nat.reduceEqDiff, reduceCtorEq, eSl, pSome, pNone, lcT, wipeE, fits_0, fits_1, fits_2, fits_3, fits_4, e6]
    rfl
  refine sq_nx (st_set (d := .lst (brokenD m ws)) (S' := S4) e7) ?_
  refine sq_nx (st_set (d := .tup (ws.map (rowD m))) (S' := S4) ?_) ?_
  · show (eB oTuple (aCons _ aNil)) [x0, some (.ref 0), some nmsD, some (.int i), some (mpD m), some (.lst (ws0.map wsD)), some (wsDs ws), some (.lst (brokenD m ws)), x8, x9, x10, x11, x12, x13, x14, x15] S4 = _
    revert e8
    generalize eLc _ _ _ _ _ = E
    intro e8
    simp only [fnS, env0, sSeq, sSet, sRet, sRetN, sIf, sE, sAsg, sPar, sNx, sPut, R.toS, R.bind, eVar, eC, eOp, eTup, eLst, eLstR, aCons, aNil, eIf, eAn, eOr, eNt, eIsi, toB, tNt, tAn, tOr_, tYs, eCall, eCall0, eB, eMt, eMt0, iSrc, iRg1, iRg2, iEn, iZp, gN, gT, gsCons, gsNil, turnS, List.map_cons, List.map_nil, List.length_cons, List.length_nil, List.replicate, List.cons_append, List.nil_append, List.getElem?_cons_zero, List.getElem?_cons_succ, List.set_cons_zero, List.set_cons_succ, Nat.sub_self, Nat.reduceSub, Nat.reduceAdd, if_true, Bool.false_eq_true, if_false, ite_true, ite_false, List.cons.injEq, and_false, false_and, true_and, and_true, decide_false, decide_true, Bool.not_true, Bool.not_false, Bool.true_and, Bool.false_and, Bool.and_true, Bool.and_false, Bool.or_false, Bool.or_true, Bool.false_or, Bool.true_or, Nat.reduceEqDiff, reduceCtorEq, eSl, pSome, pNone, lcT, wipeE, fits_0, fits_1, fits_2, fits_3, fits_4, e8]
    rfl
  refine sq_nx (st_set (d := .tup (dueL m ws)) (S' := S4) e9) ?_
  refine sq_nx (st_iff (S' := S4) ?_ st_nx) ?_
  · simp only [fnS, env0, sSeq, sSet, sRet, sRetN, sIf, sE, sAsg, sPar, sNx, sPut, R.toS, R.bind, eVar, eC, eOp, eTup, eLst, eLstR, aCons, aNil, eIf, eAn, eOr, eNt, eIsi, toB, tNt, tAn, tOr_, tYs, eCall, eCall0, eB, eMt, eMt0, iSrc, iRg1, iRg2, iEn, iZp, gN, gT, gsCons, gsNil, turnS, List.map_cons, List.map_nil, List.length_cons, List.length_nil, List.replicate, List.cons_append, List.nil_append, List.getElem?_cons_zero, List.getElem?_cons_succ, List.set_cons_zero, List.set_cons_succ, Nat.sub_self, Nat.reduceSub, Nat.reduceAdd, if_true, Bool.false_eq_true, if_false, ite_true, ite_false, List.cons.injEq, and_false, false_and, true_and, and_true, decide_false, decide_true, Bool.not_true, Bool.not_false, Bool.true_and, Bool.false_and, Bool.and_true, Bool.and_false, Bool.or_false, Bool.or_true, Bool.false_or, Bool.true_or, Nat.reduceEqDiff, reduceCtorEq, eSl, pSome, pNone, lcT, wipeE, fits_0, fits_1, fits_2, fits_3, fits_4, p_kept_paper hm q6 (by omega), p_is_kept_paper hm q6 (by omega) hdv, q_is_paper hm hok hdv, hdp, hdl, show f_law_alike = alike from rfl, hds, show ∀ S, oIsNot (.bl true) (.bl true) S = .ok (.bl false) S from fun _ => rfl]
  refine sq_nx (st_set (d := .int k) (S' := S5) ?_) ?_
  · have : (ws.map wsD).length = ws.length := List.length_map _
    simp only [fnS, env0, sSeq, sSet, sRet, sRetN, sIf, sE, sAsg, sPar, sNx, sPut, R.toS, R.bind, eVar, eC, eOp, eTup, eLst, eLstR, aCons, aNil, eIf, eAn, eOr, eNt, eIsi, toB, tNt, tAn, tOr_, tYs, eCall, eCall0, eB, eMt, eMt0, iSrc, iRg1, iRg2, iEn, iZp, gN, gT, gsCons, gsNil, turnS, List.map_cons, List.map_nil, List.length_cons, List.length_nil, List.replicate, List.cons_append, List.nil_append, List.getElem?_cons_zero, List.getElem?_cons_succ, List.set_cons_zero, List.set_cons_succ, Nat.sub_self, Nat.reduceSub, Nat.reduceAdd, if_true, Bool.false_eq_true, if_false, ite_true, ite_false, List.cons.injEq, and_false, false_and, true_and, and_true, decide_false, decide_true, Bool.not_true, Bool.not_false, Bool.true_and, Bool.false_and, Bool.and_true, Bool.and_false, Bool.or_false, Bool.or_true, Bool.false_or, Bool.true_or, Nat.reduceEqDiff, reduceCtorEq, eSl, pSome, pNone, lcT, wipeE, fits_0, fits_1, fits_2, fits_3, fits_4, wsDs, z_lenT, this, e10]
  refine sq_nx (st_set (d := .ref S5.len) (S' := S5.push (.lst (firstL (dueL m ws) (ws.map (rowD m))))) ?_) ?_
  · have c1 := cut_len (dueL m ws) (some 1) none
    have a1 : ∀ S, oAdd (.tup (dueL m ws)) (.tup [.int 0]) S = .ok (.tup (dueL m ws ++ [.int 0])) S := fun S => z_addT (by rw [List.length_singleton]; omega)
    have a2 : ∀ S, oAdd (.tup [.str [122, 111, 111]]) (.tup (cut (dueL m ws) (some 1) none)) S = .ok (.tup ([.str [122, 111, 111]] ++ cut (dueL m ws) (some 1) none)) S := fun S => z_addT (by rw [List.length_singleton]; omega)
    have a3 : ∀ S, oAdd (.tup (ws.map (rowD m))) (.tup [.non]) S = .ok (.tup (ws.map (rowD m) ++ [.non])) S := fun S => z_addT (by rw [List.length_singleton, List.length_map]; omega)
    generalize ws.map (rowD m) = rl at a3 ⊢
    generalize dueL m ws = dl at a1 a2 ⊢
    simp only [fnS, env0, sSeq, sSet, sRet, sRetN, sIf, sE, sAsg, sPar, sNx, sPut, R.toS, R.bind, eVar, eC, eOp, eTup, eLst, eLstR, aCons, aNil, eIf, eAn, eOr, eNt, eIsi, toB, tNt, tAn, tOr_, tYs, eCall, eCall0, eB, eMt, eMt0, iSrc, iRg1, iRg2, iEn, iZp, gN, gT, gsCons, gsNil, turnS, List.map_cons, List.map_nil, List.length_cons, List.length_nil, List.replicate, List.cons_append, List.nil_append, List.getElem?_cons_zero, List.getElem?_cons_succ, List.set_cons_zero, List.set_cons_succ, Nat.sub_self, Nat.reduceSub, Nat.reduceAdd, if_true, Bool.false_eq_true, if_false, ite_true, ite_false, List.cons.injEq, and_false, false_and, true_and, and_true, decide_false, decide_true, Bool.not_true, Bool.not_false, Bool.true_and, Bool.false_and, Bool.and_true, Bool.and_false, Bool.or_false, Bool.or_true, Bool.false_or, Bool.true_or, Nat.reduceEqDiff, reduceCtorEq, eSl, pSome, pNone, lcT, wipeE, fits_0, fits_1, fits_2, fits_3, fits_4, show ∀ (l : List D) a b S, oSl (.tup l) a b S = .ok (.tup (cut l a b)) S from fun _ _ _ _ => rfl, show ∀ l S, oList [.tup l] S = .ok (.lst l) S from fun _ _ => rfl, show fits 0 = true from rfl, show fits 1 = true from rfl, show fits 2 = true from rfl, a1, a2, a3]
    rfl
  refine sq_nx (st_for (S := S5.push (.lst (firstL (dueL m ws) (ws.map (rowD m))))) (ds := oddL m ws[k]) ?_ e12) ?_
  · have a1 : ∀ S, oAdd (.lst [.non, .int 0, .int 1, .int 2, .bl true, .int (-1), .tup [.int 0, .int 1], .tup [.int 1, .int 0], .tup [.int 1, .int 2], .lst [.int 0, .int 1], .tup [.int 0], .str [48]]) (.lst (cut (shownL m ws[k]) (some (-2)) none)) S = .ok (.lst (oddL m ws[k])) S := fun S => z_addL (by have := cut_len (shownL m ws[k]) (some (-2)) none; simp only [List.length_cons, List.length_nil]; omega)
    generalize oddL m ws[k] = ol at a1 ⊢
    simp only [fnS, env0, sSeq, sSet, sRet, sRetN, sIf, sE, sAsg, sPar, sNx, sPut, R.toS, R.bind, eVar, eC, eOp, eTup, eLst, eLstR, aCons, aNil, eIf, eAn, eOr, eNt, eIsi, toB, tNt, tAn, tOr_, tYs, eCall, eCall0, eB, eMt, eMt0, iSrc, iRg1, iRg2, iEn, iZp, gN, gT, gsCons, gsNil, turnS, List.map_cons, List.map_nil, List.length_cons, List.length_nil, List.replicate, List.cons_append, List.nil_append, List.getElem?_cons_zero, List.getElem?_cons_succ, List.set_cons_zero, List.set_cons_succ, Nat.sub_self, Nat.reduceSub, Nat.reduceAdd, if_true, Bool.false_eq_true, if_false, ite_true, ite_false, List.cons.injEq, and_false, false_and, true_and, and_true, decide_false, decide_true, Bool.not_true, Bool.not_false, Bool.true_and, Bool.false_and, Bool.and_true, Bool.and_false, Bool.or_false, Bool.or_true, Bool.false_or, Bool.true_or, Nat.reduceEqDiff, reduceCtorEq, eSl, pSome, pNone, lcT, wipeE, fits_0, fits_1, fits_2, fits_3, fits_4, eNeg, show (-1 : Int) = -1 from rfl, show (-(1 : Int)) = -1 from rfl, show (-(2 : Int)) = -2 from rfl, hwk, q_shown hm hokk, show ∀ l S, oList [.tup l] S = .ok (.lst l) S from fun _ _ => rfl, show ∀ (l : List D) a b S, oSl (.lst l) a b S = .ok (.lst (cut l a b)) S from fun _ _ _ _ => rfl, show fits 1 = true from rfl, show fits 2 = true from rfl, show fits 12 = true from rfl, a1, srcOf]
  refine sq_nx (st_e (d := .non) (S' := S8) ?_) e14
  have : (ws.map wsD).length = ws.length := List.length_map _
  have e13 : oExtend (.ref S5.len) [.lst [.tup [.str [98, 114, 111, 107, 101, 110], .int ws.length, .non], .tup [.str [98, 114, 111, 107, 101, 110], .bl true, .non], .tup [.str [98, 114, 111, 107, 101, 110], .int (-1), .non], .tup [.str [98, 114, 111, 107, 101, 110], .non, .non]]] S7 = .ok .non S8 := e13
  simp only [fnS, env0, sSeq, sSet, sRet, sRetN, sIf, sE, sAsg, sPar, sNx, sPut, R.toS, R.bind, eVar, eC, eOp, eTup, eLst, eLstR, aCons, aNil, eIf, eAn, eOr, eNt, eIsi, toB, tNt, tAn, tOr_, tYs, eCall, eCall0, eB, eMt, eMt0, iSrc, iRg1, iRg2, iEn, iZp, gN, gT, gsCons, gsNil, turnS, List.map_cons, List.map_nil, List.length_cons, List.length_nil, List.replicate, List.cons_append, List.nil_append, List.getElem?_cons_zero, List.getElem?_cons_succ, List.set_cons_zero, List.set_cons_succ, Nat.sub_self, Nat.reduceSub, Nat.reduceAdd, if_true, Bool.false_eq_true, if_false, ite_true, ite_false, List.cons.injEq, and_false, false_and, true_and, and_true, decide_false, decide_true, Bool.not_true, Bool.not_false, Bool.true_and, Bool.false_and, Bool.and_true, Bool.and_false, Bool.or_false, Bool.or_true, Bool.false_or, Bool.true_or, Nat.reduceEqDiff, reduceCtorEq, eSl, pSome, pNone, lcT, wipeE, fits_0, fits_1, fits_2, fits_3, fits_4, eNeg, tyL_k hT1, wsDs, z_lenT, this, show fits 3 = true from rfl, show fits 4 = true from rfl, show (-(1 : Int)) = -1 from rfl, e13]
theorem law_true (ns : List Int) (hn : ns.length ≤ 63) : ∃ S, f_law [.arg ns] Sto.nil = .ok (.bl true) S := by
  obtain ⟨S0, e0, h0⟩ := bag_ok hn
  have e0 : f_law_bag [.arg ns] Sto.nil = .ok (.ref 0) S0 := e0
  obtain ⟨ρ', S', e, hρ, hS⟩ := forS_inv (emb := D.int) (turn := turnS (gN 3) lapB) (fun _ ρ S => Env16 ρ ∧ Bg S) [0, 1, 2, 3, 4, 5, 6, 7] [some (.arg ns), some (.ref 0), some nmsD, none, none, none, none, none, none, none, none, none, none, none, none, none] S0 (by
    rintro done x rest ρ S _ ⟨h1, h2⟩
    obtain ⟨ρ', S', e, a, b⟩ := lap (i := x) h2 h1
    exact ⟨ρ', S', e, a, b⟩) ⟨⟨_, _, _, _, _, _, _, _, _, _, _, _, _, _, rfl⟩, h0⟩
  refine ⟨S', fn_rt ?_⟩
  unfold m_law
  refine sq_nx (st_set (d := .ref 0) (S' := S0) (by simp only [env0, fnS, env0, sSeq, sSet, sRet, sRetN, sIf, sE, sAsg, sPar, sNx, sPut, R.toS, R.bind, eVar, eC, eOp, eTup, eLst, eLstR, aCons, aNil, eIf, eAn, eOr, eNt, eIsi, toB, tNt, tAn, tOr_, tYs, eCall, eCall0, eB, eMt, eMt0, iSrc, iRg1, iRg2, iEn, iZp, gN, gT, gsCons, gsNil, turnS, List.map_cons, List.map_nil, List.length_cons, List.length_nil, List.replicate, List.cons_append, List.nil_append, List.getElem?_cons_zero, List.getElem?_cons_succ, List.set_cons_zero, List.set_cons_succ, Nat.sub_self, Nat.reduceSub, Nat.reduceAdd, if_true, Bool.false_eq_true, if_false, ite_true, ite_false, List.cons.injEq, and_false, false_and, true_and, and_true, decide_false, decide_true, Bool.not_true, Bool.not_false, Bool.true_and, Bool.false_and, Bool.and_true, Bool.and_false, Bool.or_false, Bool.or_true, Bool.false_or, Bool.true_or, Nat.reduceEqDiff, reduceCtorEq, eSl, pSome, pNone, lcT, wipeE, fits_0, fits_1, fits_2, fits_3, fits_4, e0])) ?_
  refine sq_nx (st_set (d := nmsD) (S' := S0) (by simp only [env0, fnS, env0, sSeq, sSet, sRet, sRetN, sIf, sE, sAsg, sPar, sNx, sPut, R.toS, R.bind, eVar, eC, eOp, eTup, eLst, eLstR, aCons, aNil, eIf, eAn, eOr, eNt, eIsi, toB, tNt, tAn, tOr_, tYs, eCall, eCall0, eB, eMt, eMt0, iSrc, iRg1, iRg2, iEn, iZp, gN, gT, gsCons, gsNil, turnS, List.map_cons, List.map_nil, List.length_cons, List.length_nil, List.replicate, List.cons_append, List.nil_append, List.getElem?_cons_zero, List.getElem?_cons_succ, List.set_cons_zero, List.set_cons_succ, Nat.sub_self, Nat.reduceSub, Nat.reduceAdd, if_true, Bool.false_eq_true, if_false, ite_true, ite_false, List.cons.injEq, and_false, false_and, true_and, and_true, decide_false, decide_true, Bool.not_true, Bool.not_false, Bool.true_and, Bool.false_and, Bool.and_true, Bool.and_false, Bool.or_false, Bool.or_true, Bool.false_or, Bool.true_or, Nat.reduceEqDiff, reduceCtorEq, eSl, pSome, pNone, lcT, wipeE, fits_0, fits_1, fits_2, fits_3, fits_4, show fits 2 = true from rfl, nmsD])) ?_
  exact sq_nx (st_for (S := S0) (ds := [0, 1, 2, 3, 4, 5, 6, 7].map D.int) rfl e) (st_ret rfl)
end Zk24

namespace Zk24
open PySem PySem.Spec PyProof PyProof.Rows L2 Z
def top (i : Nat) : Stmt := PySem.Challenge.pw_zoneways_k24_papers_of_wishes_kept.main.body.getD i (.Pass ⟨0, 0, 0, 0⟩)
def dd_law_bag : He.DefD := ⟨("_law_bag", none), "_law_bag", "_law_bag", defArgs (top 32), defBody (top 32), defScope (top 32), [], []⟩
def dd_law_take : He.DefD := ⟨("_law_take", none), "_law_take", "_law_take", defArgs (top 33), defBody (top 33), defScope (top 33), [], []⟩
def dd_law_couples : He.DefD := ⟨("_law_couples", none), "_law_couples", "_law_couples", defArgs (top 36), defBody (top 36), defScope (top 36), [], []⟩
def dd_law_map : He.DefD := ⟨("_law_map", none), "_law_map", "_law_map", defArgs (top 37), defBody (top 37), defScope (top 37), [], []⟩
def dd_law_some : He.DefD := ⟨("_law_some", none), "_law_some", "_law_some", defArgs (top 34), defBody (top 34), defScope (top 34), [], []⟩
def dd_law_term : He.DefD := ⟨("_law_term", none), "_law_term", "_law_term", defArgs (top 41), defBody (top 41), defScope (top 41), [], []⟩
def dd_law_wish : He.DefD := ⟨("_law_wish", none), "_law_wish", "_law_wish", defArgs (top 42), defBody (top 42), defScope (top 42), [], []⟩
def dd_law_member : He.DefD := ⟨("_law_member", none), "_law_member", "_law_member", defArgs (top 38), defBody (top 38), defScope (top 38), [], []⟩
def dd_law_is_in : He.DefD := ⟨("_law_is_in", none), "_law_is_in", "_law_is_in", defArgs (top 39), defBody (top 39), defScope (top 39), [], []⟩
def dd_law_keeps : He.DefD := ⟨("_law_keeps", none), "_law_keeps", "_law_keeps", defArgs (top 40), defBody (top 40), defScope (top 40), [], []⟩
def dd_law_seams_of : He.DefD := ⟨("_law_seams_of", none), "_law_seams_of", "_law_seams_of", defArgs (top 45), defBody (top 45), defScope (top 45), [], []⟩
def dd_law_cells_of : He.DefD := ⟨("_law_cells_of", none), "_law_cells_of", "_law_cells_of", defArgs (top 46), defBody (top 46), defScope (top 46), [], []⟩
def dd_law_shown : He.DefD := ⟨("_law_shown", none), "_law_shown", "_law_shown", defArgs (top 47), defBody (top 47), defScope (top 47), [], []⟩
def dd_law_is_int : He.DefD := ⟨("_law_is_int", none), "_law_is_int", "_law_is_int", defArgs (top 43), defBody (top 43), defScope (top 43), [], []⟩
def dd_law_is_count : He.DefD := ⟨("_law_is_count", none), "_law_is_count", "_law_is_count", defArgs (top 44), defBody (top 44), defScope (top 44), [], []⟩
def dd_law_is_shown : He.DefD := ⟨("_law_is_shown", none), "_law_is_shown", "_law_is_shown", defArgs (top 49), defBody (top 49), defScope (top 49), [], []⟩
def dd_law_is_paper : He.DefD := ⟨("_law_is_paper", none), "_law_is_paper", "_law_is_paper", defArgs (top 50), defBody (top 50), defScope (top 50), [], []⟩
def dd_law_alike : He.DefD := ⟨("_law_alike", none), "_law_alike", "_law_alike", defArgs (top 35), defBody (top 35), defScope (top 35), [], []⟩
def dd_asks : He.DefD := ⟨("asks", none), "asks", "asks", defArgs (top 22), defBody (top 22), defScope (top 22), [], []⟩
def dd_names_of : He.DefD := ⟨("names_of", none), "names_of", "names_of", defArgs (top 10), defBody (top 10), defScope (top 10), [], []⟩
def dd_inner : He.DefD := ⟨("inner", none), "inner", "inner", defArgs (top 15), defBody (top 15), defScope (top 15), [], []⟩
def dd_parts_of : He.DefD := ⟨("parts_of", none), "parts_of", "parts_of", defArgs (top 16), defBody (top 16), defScope (top 16), [], []⟩
def dd_truth_of : He.DefD := ⟨("truth_of", none), "truth_of", "truth_of", defArgs (top 18), defBody (top 18), defScope (top 18), [], []⟩
def dd_is_in_by : He.DefD := ⟨("is_in_by", none), "is_in_by", "is_in_by", defArgs (top 19), defBody (top 19), defScope (top 19), [], []⟩
def dd_names_in : He.DefD := ⟨("names_in", none), "names_in", "names_in", defArgs (top 17), defBody (top 17), defScope (top 17), [], []⟩
def dd_memberships : He.DefD := ⟨("memberships", none), "memberships", "memberships", defArgs (top 12), defBody (top 12), defScope (top 12), [], []⟩
def dd_cells_of : He.DefD := ⟨("cells_of", none), "cells_of", "cells_of", defArgs (top 20), defBody (top 20), defScope (top 20), [], []⟩
def dd_is_integer : He.DefD := ⟨("is_integer", none), "is_integer", "is_integer", defArgs (top 2), defBody (top 2), defScope (top 2), [], []⟩
def dd_is_count : He.DefD := ⟨("is_count", none), "is_count", "is_count", defArgs (top 3), defBody (top 3), defScope (top 3), [], []⟩
def dd_is_counts : He.DefD := ⟨("is_counts", none), "is_counts", "is_counts", defArgs (top 9), defBody (top 9), defScope (top 9), [], []⟩
def dd_check_cells : He.DefD := ⟨("check_cells", none), "check_cells", "check_cells", defArgs (top 11), defBody (top 11), defScope (top 11), [], []⟩
def dd_seams_between : He.DefD := ⟨("seams_between", none), "seams_between", "seams_between", defArgs (top 13), defBody (top 13), defScope (top 13), [], []⟩
def dd_shown_by : He.DefD := ⟨("shown_by", none), "shown_by", "shown_by", defArgs (top 23), defBody (top 23), defScope (top 23), [], []⟩
def dd_keeps : He.DefD := ⟨("keeps", none), "keeps", "keeps", defArgs (top 24), defBody (top 24), defScope (top 24), [], []⟩
def dd_all_broken : He.DefD := ⟨("all_broken", none), "all_broken", "all_broken", defArgs (top 25), defBody (top 25), defScope (top 25), [], []⟩
def dd_is_couple : He.DefD := ⟨("is_couple", none), "is_couple", "is_couple", defArgs (top 8), defBody (top 8), defScope (top 8), [], []⟩
def dd_is_shown : He.DefD := ⟨("is_shown", none), "is_shown", "is_shown", defArgs (top 28), defBody (top 28), defScope (top 28), [], []⟩
def dd_is_row : He.DefD := ⟨("is_row", none), "is_row", "is_row", defArgs (top 29), defBody (top 29), defScope (top 29), [], []⟩
def dd_is_kept_paper : He.DefD := ⟨("is_kept_paper", none), "is_kept_paper", "is_kept_paper", defArgs (top 30), defBody (top 30), defScope (top 30), [], []⟩
def dd_law_contrary : He.DefD := ⟨("_law_contrary", none), "_law_contrary", "_law_contrary", defArgs (top 48), defBody (top 48), defScope (top 48), [], []⟩
def dd_kept_paper : He.DefD := ⟨("kept_paper", none), "kept_paper", "kept_paper", defArgs (top 27), defBody (top 27), defScope (top 27), [], []⟩
def dd_law : He.DefD := ⟨("law", none), "law", "law", defArgs (top 51), defBody (top 51), defScope (top 51), [], []⟩
def fn : List He.DefD := [dd_law_bag, dd_law_take, dd_law_couples, dd_law_map, dd_law_some, dd_law_term, dd_law_wish, dd_law_member, dd_law_is_in, dd_law_keeps, dd_law_seams_of, dd_law_cells_of, dd_law_shown, dd_law_is_int, dd_law_is_count, dd_law_is_shown, dd_law_is_paper, dd_law_alike, dd_asks, dd_names_of, dd_inner, dd_parts_of, dd_truth_of, dd_is_in_by, dd_names_in, dd_memberships, dd_cells_of, dd_is_integer, dd_is_count, dd_is_counts, dd_check_cells, dd_seams_between, dd_shown_by, dd_keeps, dd_all_broken, dd_is_couple, dd_is_shown, dd_is_row, dd_is_kept_paper, dd_law_contrary, dd_kept_paper, dd_law]
def fa : List He.Fa := [.glo "_law_bag", .glo "_law_take", .glo "_law_couples", .glo "_law_map", .glo "_law_some", .glo "_law_term", .glo "_law_wish", .glo "_law_member", .glo "_law_is_in", .glo "_law_keeps", .glo "_law_seams_of", .glo "_law_cells_of", .glo "_law_shown", .glo "_law_is_int", .glo "_law_is_count", .glo "_law_is_shown", .glo "_law_is_paper", .glo "_law_alike", .glo "asks", .glo "names_of", .glo "inner", .glo "parts_of", .glo "truth_of", .glo "is_in_by", .glo "names_in", .glo "memberships", .glo "cells_of", .glo "is_integer", .glo "is_count", .glo "is_counts", .glo "check_cells", .glo "seams_between", .glo "shown_by", .glo "keeps", .glo "all_broken", .glo "is_couple", .glo "is_shown", .glo "is_row", .glo "is_kept_paper", .glo "_law_contrary", .glo "kept_paper", .glo "law", .free "abs", .free "all", .free "any", .free "bool", .free "enumerate", .free "int", .free "isinstance", .free "len", .free "list", .free "range", .free "repr", .free "sorted", .free "str", .free "tuple", .free "zip"]
structure HF (K : PySem.W.Frag) (mg : Str → Option Value) : Prop where
  d : He.SaysD fa fn K
  ns : ∃ h : Heap, K.In h ∧ h.Ns mainGlobals mg
section
variable {K : PySem.W.Frag} {mg : Str → Option Value}
theorem hg_law_bag (h : HF K mg) : mg "_law_bag" = some (.ref (He.fAd K ("_law_bag", none))) := let ⟨_, X, G⟩ := h.ns; He.glo_ok X G (h.d.fact 0 (f := .glo "_law_bag") rfl)
theorem hg_law_take (h : HF K mg) : mg "_law_take" = some (.ref (He.fAd K ("_law_take", none))) := let ⟨_, X, G⟩ := h.ns; He.glo_ok X G (h.d.fact 1 (f := .glo "_law_take") rfl)
theorem hg_law_couples (h : HF K mg) : mg "_law_couples" = some (.ref (He.fAd K ("_law_couples", none))) := let ⟨_, X, G⟩ := h.ns; He.glo_ok X G (h.d.fact 2 (f := .glo "_law_couples") rfl)
theorem hg_law_map (h : HF K mg) : mg "_law_map" = some (.ref (He.fAd K ("_law_map", none))) := let ⟨_, X, G⟩ := h.ns; He.glo_ok X G (h.d.fact 3 (f := .glo "_law_map") rfl)
theorem hg_law_some (h : HF K mg) : mg "_law_some" = some (.ref (He.fAd K ("_law_some", none))) := let ⟨_, X, G⟩ := h.ns; He.glo_ok X G (h.d.fact 4 (f := .glo "_law_some") rfl)
theorem hg_law_term (h : HF K mg) : mg "_law_term" = some (.ref (He.fAd K ("_law_term", none))) := let ⟨_, X, G⟩ := h.ns; He.glo_ok X G (h.d.fact 5 (f := .glo "_law_term") rfl)
theorem hg_law_wish (h : HF K mg) : mg "_law_wish" = some (.ref (He.fAd K ("_law_wish", none))) := let ⟨_, X, G⟩ := h.ns; He.glo_ok X G (h.d.fact 6 (f := .glo "_law_wish") rfl)
theorem hg_law_member (h : HF K mg) : mg "_law_member" = some (.ref (He.fAd K ("_law_member", none))) := let ⟨_, X, G⟩ := h.ns; He.glo_ok X G (h.d.fact 7 (f := .glo "_law_member") rfl)
theorem hg_law_is_in (h : HF K mg) : mg "_law_is_in" = some (.ref (He.fAd K ("_law_is_in", none))) := let ⟨_, X, G⟩ := h.ns; He.glo_ok X G (h.d.fact 8 (f := .glo "_law_is_in") rfl)
theorem hg_law_keeps (h : HF K mg) : mg "_law_keeps" = some (.ref (He.fAd K ("_law_keeps", none))) := let ⟨_, X, G⟩ := h.ns; He.glo_ok X G (h.d.fact 9 (f := .glo "_law_keeps") rfl)
theorem hg_law_seams_of (h : HF K mg) : mg "_law_seams_of" = some (.ref (He.fAd K ("_law_seams_of", none))) := let ⟨_, X, G⟩ := h.ns; He.glo_ok X G (h.d.fact 10 (f := .glo "_law_seams_of") rfl)
theorem hg_law_cells_of (h : HF K mg) : mg "_law_cells_of" = some (.ref (He.fAd K ("_law_cells_of", none))) := let ⟨_, X, G⟩ := h.ns; He.glo_ok X G (h.d.fact 11 (f := .glo "_law_cells_of") rfl)
theorem hg_law_shown (h : HF K mg) : mg "_law_shown" = some (.ref (He.fAd K ("_law_shown", none))) := let ⟨_, X, G⟩ := h.ns; He.glo_ok X G (h.d.fact 12 (f := .glo "_law_shown") rfl)
theorem hg_law_is_int (h : HF K mg) : mg "_law_is_int" = some (.ref (He.fAd K ("_law_is_int", none))) := let ⟨_, X, G⟩ := h.ns; He.glo_ok X G (h.d.fact 13 (f := .glo "_law_is_int") rfl)
theorem hg_law_is_count (h : HF K mg) : mg "_law_is_count" = some (.ref (He.fAd K ("_law_is_count", none))) := let ⟨_, X, G⟩ := h.ns; He.glo_ok X G (h.d.fact 14 (f := .glo "_law_is_count") rfl)
theorem hg_law_is_shown (h : HF K mg) : mg "_law_is_shown" = some (.ref (He.fAd K ("_law_is_shown", none))) := let ⟨_, X, G⟩ := h.ns; He.glo_ok X G (h.d.fact 15 (f := .glo "_law_is_shown") rfl)
theorem hg_law_is_paper (h : HF K mg) : mg "_law_is_paper" = some (.ref (He.fAd K ("_law_is_paper", none))) := let ⟨_, X, G⟩ := h.ns; He.glo_ok X G (h.d.fact 16 (f := .glo "_law_is_paper") rfl)
theorem hg_law_alike (h : HF K mg) : mg "_law_alike" = some (.ref (He.fAd K ("_law_alike", none))) := let ⟨_, X, G⟩ := h.ns; He.glo_ok X G (h.d.fact 17 (f := .glo "_law_alike") rfl)
theorem hg_asks (h : HF K mg) : mg "asks" = some (.ref (He.fAd K ("asks", none))) := let ⟨_, X, G⟩ := h.ns; He.glo_ok X G (h.d.fact 18 (f := .glo "asks") rfl)
theorem hg_names_of (h : HF K mg) : mg "names_of" = some (.ref (He.fAd K ("names_of", none))) := let ⟨_, X, G⟩ := h.ns; He.glo_ok X G (h.d.fact 19 (f := .glo "names_of") rfl)
theorem hg_inner (h : HF K mg) : mg "inner" = some (.ref (He.fAd K ("inner", none))) := let ⟨_, X, G⟩ := h.ns; He.glo_ok X G (h.d.fact 20 (f := .glo "inner") rfl)
theorem hg_parts_of (h : HF K mg) : mg "parts_of" = some (.ref (He.fAd K ("parts_of", none))) := let ⟨_, X, G⟩ := h.ns; He.glo_ok X G (h.d.fact 21 (f := .glo "parts_of") rfl)
theorem hg_truth_of (h : HF K mg) : mg "truth_of" = some (.ref (He.fAd K ("truth_of", none))) := let ⟨_, X, G⟩ := h.ns; He.glo_ok X G (h.d.fact 22 (f := .glo "truth_of") rfl)
theorem hg_is_in_by (h : HF K mg) : mg "is_in_by" = some (.ref (He.fAd K ("is_in_by", none))) := let ⟨_, X, G⟩ := h.ns; He.glo_ok X G (h.d.fact 23 (f := .glo "is_in_by") rfl)
theorem hg_names_in (h : HF K mg) : mg "names_in" = some (.ref (He.fAd K ("names_in", none))) := let ⟨_, X, G⟩ := h.ns; He.glo_ok X G (h.d.fact 24 (f := .glo "names_in") rfl)
theorem hg_memberships (h : HF K mg) : mg "memberships" = some (.ref (He.fAd K ("memberships", none))) := let ⟨_, X, G⟩ := h.ns; He.glo_ok X G (h.d.fact 25 (f := .glo "memberships") rfl)
theorem hg_cells_of (h : HF K mg) : mg "cells_of" = some (.ref (He.fAd K ("cells_of", none))) := let ⟨_, X, G⟩ := h.ns; He.glo_ok X G (h.d.fact 26 (f := .glo "cells_of") rfl)
theorem hg_is_integer (h : HF K mg) : mg "is_integer" = some (.ref (He.fAd K ("is_integer", none))) := let ⟨_, X, G⟩ := h.ns; He.glo_ok X G (h.d.fact 27 (f := .glo "is_integer") rfl)
theorem hg_is_count (h : HF K mg) : mg "is_count" = some (.ref (He.fAd K ("is_count", none))) := let ⟨_, X, G⟩ := h.ns; He.glo_ok X G (h.d.fact 28 (f := .glo "is_count") rfl)
theorem hg_is_counts (h : HF K mg) : mg "is_counts" = some (.ref (He.fAd K ("is_counts", none))) := let ⟨_, X, G⟩ := h.ns; He.glo_ok X G (h.d.fact 29 (f := .glo "is_counts") rfl)
theorem hg_check_cells (h : HF K mg) : mg "check_cells" = some (.ref (He.fAd K ("check_cells", none))) := let ⟨_, X, G⟩ := h.ns; He.glo_ok X G (h.d.fact 30 (f := .glo "check_cells") rfl)
theorem hg_seams_between (h : HF K mg) : mg "seams_between" = some (.ref (He.fAd K ("seams_between", none))) := let ⟨_, X, G⟩ := h.ns; He.glo_ok X G (h.d.fact 31 (f := .glo "seams_between") rfl)
theorem hg_shown_by (h : HF K mg) : mg "shown_by" = some (.ref (He.fAd K ("shown_by", none))) := let ⟨_, X, G⟩ := h.ns; He.glo_ok X G (h.d.fact 32 (f := .glo "shown_by") rfl)
theorem hg_keeps (h : HF K mg) : mg "keeps" = some (.ref (He.fAd K ("keeps", none))) := let ⟨_, X, G⟩ := h.ns; He.glo_ok X G (h.d.fact 33 (f := .glo "keeps") rfl)
theorem hg_all_broken (h : HF K mg) : mg "all_broken" = some (.ref (He.fAd K ("all_broken", none))) := let ⟨_, X, G⟩ := h.ns; He.glo_ok X G (h.d.fact 34 (f := .glo "all_broken") rfl)
theorem hg_is_couple (h : HF K mg) : mg "is_couple" = some (.ref (He.fAd K ("is_couple", none))) := let ⟨_, X, G⟩ := h.ns; He.glo_ok X G (h.d.fact 35 (f := .glo "is_couple") rfl)
theorem hg_is_shown (h : HF K mg) : mg "is_shown" = some (.ref (He.fAd K ("is_shown", none))) := let ⟨_, X, G⟩ := h.ns; He.glo_ok X G (h.d.fact 36 (f := .glo "is_shown") rfl)
theorem hg_is_row (h : HF K mg) : mg "is_row" = some (.ref (He.fAd K ("is_row", none))) := let ⟨_, X, G⟩ := h.ns; He.glo_ok X G (h.d.fact 37 (f := .glo "is_row") rfl)
theorem hg_is_kept_paper (h : HF K mg) : mg "is_kept_paper" = some (.ref (He.fAd K ("is_kept_paper", none))) := let ⟨_, X, G⟩ := h.ns; He.glo_ok X G (h.d.fact 38 (f := .glo "is_kept_paper") rfl)
theorem hg_law_contrary (h : HF K mg) : mg "_law_contrary" = some (.ref (He.fAd K ("_law_contrary", none))) := let ⟨_, X, G⟩ := h.ns; He.glo_ok X G (h.d.fact 39 (f := .glo "_law_contrary") rfl)
theorem hg_kept_paper (h : HF K mg) : mg "kept_paper" = some (.ref (He.fAd K ("kept_paper", none))) := let ⟨_, X, G⟩ := h.ns; He.glo_ok X G (h.d.fact 40 (f := .glo "kept_paper") rfl)
theorem hg_law (h : HF K mg) : mg "law" = some (.ref (He.fAd K ("law", none))) := let ⟨_, X, G⟩ := h.ns; He.glo_ok X G (h.d.fact 41 (f := .glo "law") rfl)
theorem hf_abs (h : HF K mg) : mg "abs" = none := let ⟨_, X, G⟩ := h.ns; He.free_ok X G (h.d.fact 42 (f := .free "abs") rfl)
theorem hf_all (h : HF K mg) : mg "all" = none := let ⟨_, X, G⟩ := h.ns; He.free_ok X G (h.d.fact 43 (f := .free "all") rfl)
theorem hf_any (h : HF K mg) : mg "any" = none := let ⟨_, X, G⟩ := h.ns; He.free_ok X G (h.d.fact 44 (f := .free "any") rfl)
theorem hf_bool (h : HF K mg) : mg "bool" = none := let ⟨_, X, G⟩ := h.ns; He.free_ok X G (h.d.fact 45 (f := .free "bool") rfl)
theorem hf_enumerate (h : HF K mg) : mg "enumerate" = none := let ⟨_, X, G⟩ := h.ns; He.free_ok X G (h.d.fact 46 (f := .free "enumerate") rfl)
theorem hf_int (h : HF K mg) : mg "int" = none := let ⟨_, X, G⟩ := h.ns; He.free_ok X G (h.d.fact 47 (f := .free "int") rfl)
theorem hf_isinstance (h : HF K mg) : mg "isinstance" = none := let ⟨_, X, G⟩ := h.ns; He.free_ok X G (h.d.fact 48 (f := .free "isinstance") rfl)
theorem hf_len (h : HF K mg) : mg "len" = none := let ⟨_, X, G⟩ := h.ns; He.free_ok X G (h.d.fact 49 (f := .free "len") rfl)
theorem hf_list (h : HF K mg) : mg "list" = none := let ⟨_, X, G⟩ := h.ns; He.free_ok X G (h.d.fact 50 (f := .free "list") rfl)
theorem hf_range (h : HF K mg) : mg "range" = none := let ⟨_, X, G⟩ := h.ns; He.free_ok X G (h.d.fact 51 (f := .free "range") rfl)
theorem hf_repr (h : HF K mg) : mg "repr" = none := let ⟨_, X, G⟩ := h.ns; He.free_ok X G (h.d.fact 52 (f := .free "repr") rfl)
theorem hf_sorted (h : HF K mg) : mg "sorted" = none := let ⟨_, X, G⟩ := h.ns; He.free_ok X G (h.d.fact 53 (f := .free "sorted") rfl)
theorem hf_str (h : HF K mg) : mg "str" = none := let ⟨_, X, G⟩ := h.ns; He.free_ok X G (h.d.fact 54 (f := .free "str") rfl)
theorem hf_tuple (h : HF K mg) : mg "tuple" = none := let ⟨_, X, G⟩ := h.ns; He.free_ok X G (h.d.fact 55 (f := .free "tuple") rfl)
theorem hf_zip (h : HF K mg) : mg "zip" = none := let ⟨_, X, G⟩ := h.ns; He.free_ok X G (h.d.fact 56 (f := .free "zip") rfl)
end
section
variable {P : Program} {w : World} {K : PySem.W.Frag} {mg : Str → Option Value} {base : Heap}
theorem sc_law_bag : FnScope ["script", "cell"] ["script"] (defScope (top 32)) := ⟨rfl, rfl, rfl, by decide +kernel, rfl, by decide +kernel, by decide +kernel⟩
theorem fs_law_bag (h : HF K mg) : Fs P w K mg base 1 "_law_bag" ["script"] f_law_bag := by
  obtain ⟨fd, F⟩ := h.d.def_ 0 (d := dd_law_bag) rfl
  exact (fs_mk (k := 0) F (hg_law_bag h) (F.bindsN fun _ _ _ _ _ _ us hl => match us, hl with | [_], _ => rfl) sc_law_bag fun cdv A outer s H E st => (show CSs _ (defBody (top 32)) m_law_bag from (css_one (cs_ret (ce_bag (ca_cons ce_int (ca_cons ce_int (ca_cons ce_int (ca_cons (ce_lc [("cell", 1)] st.toStd.hc st.toStd.hN (ci_any (ce_slice (ce_var 0) co_none (co_some ce_int))) (blkOk_by rfl) (by decide) (fun _ _ _ _ _ => (cg_name 1 (st.toStd).blk.hN)) (fun _ _ _ _ _ => cts_nil) (fun _ _ _ _ _ => (ce_B cb_abs rfl (hf_abs h) bt_abs (ca_cons (ce_var 1) ca_nil)))) ca_nil)))))))))
theorem sc_law_take : FnScope ["bag", "many", "begin", "second", "cell", "stirred", "value"] ["bag", "many"] (defScope (top 33)) := ⟨rfl, rfl, rfl, by decide +kernel, rfl, by decide +kernel, by decide +kernel⟩
theorem fs_law_take (h : HF K mg) : Fs P w K mg base 1 "_law_take" ["bag", "many"] f_law_take := by
  obtain ⟨fd, F⟩ := h.d.def_ 1 (d := dd_law_take) rfl
  exact (fs_mk (k := 0) F (hg_law_take h) (F.bindsN fun _ _ _ _ _ _ us hl => match us, hl with | [_, _], _ => rfl) sc_law_take fun cdv A outer s H E st => (show CSs _ (defBody (top 33)) m_law_take from (css_cons (cs_if (ct_cmp (od_eq st.toStd.hr) (ce_ix st.toStd.hr (ce_var 0) ce_int) ce_int) (css_cons (cs_set 4 st.toStd.hN (ce_ix st.toStd.hr (ce_bin od_add (ce_slice (ce_ix st.toStd.hr (ce_var 0) ce_int) (co_some (ce_ix st.toStd.hr (ce_var 0) ce_int)) co_none) (ce_lst (ca_cons ce_int ca_nil))) ce_int)) (css_cons (cs_augS st.toStd.hr (ce_var 0) ce_int od_iadd ce_int) (css_cons (cs_if (ct_cmp (od_cmp st.toStd.hr (.inr (.inr (.inr rfl)))) (ce_var 4) (ce_bin od_pow ce_int ce_int)) (css_one (cs_put st.toStd.hr (ce_var 4) (ce_var 0) ce_int)) css_nil) (css_cons (cs_set 5 st.toStd.hN (ce_bin od_add (ce_bin od_add (ce_bin od_mul (ce_ix st.toStd.hr (ce_var 0) ce_int) ce_int) (ce_bin od_mod (ce_Ty cb_int rfl (hf_int h) bt_int (ca_cons (ce_var 4) ca_nil)) ce_int)) (ce_bin od_mul ce_int (ce_ix st.toStd.hr (ce_var 0) ce_int)))) (css_one (cs_put st.toStd.hr (ce_bin od_mod (ce_Ty cb_int rfl (hf_int h) bt_int (ca_cons (ce_var 5) ca_nil)) ce_int) (ce_var 0) ce_int)))))) css_nil) (css_cons (cs_if (ct_cmp (od_cmp st.toStd.hr (.inr (.inr (.inl rfl)))) (ce_ix st.toStd.hr (ce_var 0) ce_int) ce_int) (css_cons (cs_set 6 st.toStd.hN (ce_bin od_mod (ce_Ty cb_int rfl (hf_int h) bt_int (ca_cons (ce_ix st.toStd.hr (ce_var 0) ce_int) ca_nil)) (ce_var 1))) (css_cons (cs_put st.toStd.hr (ce_bin od_div (ce_Ty cb_int rfl (hf_int h) bt_int (ca_cons (ce_ix st.toStd.hr (ce_var 0) ce_int) ca_nil)) (ce_var 1)) (ce_var 0) ce_int) (css_one (cs_ret (ce_var 6))))) css_nil) (css_cons (cs_set 2 st.toStd.hN (ce_bin od_mod (ce_Ty cb_int rfl (hf_int h) bt_int (ca_cons (ce_bin od_mul (ce_bin od_add (ce_ix st.toStd.hr (ce_var 0) ce_int) ce_int) ce_int) ca_nil)) ce_int)) (css_cons (cs_set 3 st.toStd.hN (ce_bin od_mod (ce_Ty cb_int rfl (hf_int h) bt_int (ca_cons (ce_bin od_mul (ce_bin od_mod (ce_Ty cb_int rfl (hf_int h) bt_int (ca_cons (ce_bin od_mul (ce_var 2) (ce_var 2)) ca_nil)) ce_int) ce_int) ca_nil)) ce_int)) (css_one (cs_ret (ce_bin od_mod (ce_Ty cb_int rfl (hf_int h) bt_int (ca_cons (ce_bin od_div (ce_var 3) ce_int) ca_nil)) (ce_var 1))))))))))
theorem sc_law_couples : FnScope ["many", "found", "a", "b"] ["many"] (defScope (top 36)) := ⟨rfl, rfl, rfl, by decide +kernel, rfl, by decide +kernel, by decide +kernel⟩
theorem fs_law_couples (h : HF K mg) : Fs P w K mg base 1 "_law_couples" ["many"] f_law_couples := by
  obtain ⟨fd, F⟩ := h.d.def_ 2 (d := dd_law_couples) rfl
  exact (fs_mk (k := 0) F (hg_law_couples h) (F.bindsN fun _ _ _ _ _ _ us hl => match us, hl with | [_], _ => rfl) sc_law_couples fun cdv A outer s H E st => (show CSs _ (defBody (top 36)) m_law_couples from (css_cons (cs_set 1 st.toStd.hN (ce_lstR ca_nil)) (css_cons (cs_for st.hp st.toStd.hc (ci_range1 rfl (hf_range h) (ca_cons (ce_var 0) ca_nil)) (cg_name 2 st.toStd.hN) (css_one (cs_expr (ce_m PySem.F.plainAttrs_list PySem.F.slot_list_extend PySem.F.type_list_extend tyL_of mb_extend (ce_var 1) (ca_cons (ce_lc [("b", 3)] st.toStd.hc st.toStd.hN (ci_range2 rfl (hf_range h) (ca_cons (ce_bin od_add (ce_var 2) ce_int) (ca_cons (ce_var 0) ca_nil))) (blkOk_by rfl) (by decide) (fun _ _ _ _ _ => (cg_name 3 (st.toStd).blk.hN)) (fun _ _ _ _ _ => cts_nil) (fun _ _ _ _ _ => (ce_tup (ca_cons (ce_var 2) (ca_cons (ce_var 3) ca_nil))))) ca_nil))))) (css_one (cs_ret (ce_var 1))))))).A
theorem sc_law_map : FnScope ["bag", "names", "most", "many", "seams", "zones", "name", "cells", "couple", "cell"] ["bag", "names", "most"] (defScope (top 37)) := ⟨rfl, rfl, rfl, by decide +kernel, rfl, by decide +kernel, by decide +kernel⟩
theorem fs_law_map (h : HF K mg) : Fs P w K mg base 2 "_law_map" ["bag", "names", "most"] f_law_map := by
  obtain ⟨fd, F⟩ := h.d.def_ 3 (d := dd_law_map) rfl
  exact (fs_mk (k := 1) F (hg_law_map h) (F.bindsN fun _ _ _ _ _ _ us hl => match us, hl with | [_, _, _], _ => rfl) sc_law_map fun cdv A outer s H E st => (show CSs _ (defBody (top 37)) m_law_map from (css_cons (cs_set 3 st.toStd.hN (ce_bin od_add ce_int (ce_fn (x := "_law_take") (fs_law_take h) st.toStd (by first | decide | omega) (by rfl) (ca_cons (ce_var 0) (ca_cons (ce_var 2) ca_nil))))) (css_cons (cs_set 4 st.toStd.hN (ce_Ty cb_tuple rfl (hf_tuple h) bt_tuple (ca_cons (ce_lc [("couple", 8)] st.toStd.hc st.toStd.hN (ci_any (ce_fn (x := "_law_couples") (fs_law_couples h) st.toStd (by first | decide | omega) (by rfl) (ca_cons (ce_var 3) ca_nil))) (blkOk_by rfl) (by decide) (fun _ _ _ _ _ => (cg_name 8 (st.toStd).blk.hN)) (fun _ _ _ _ _ => (cts_one (ct_cmp (od_cmp (st.toStd).blk.hr (.inl rfl)) (ce_fn (x := "_law_take") (fs_law_take h) (st.toStd).blk (by first | decide | omega) (by rfl) (ca_cons (ce_var 0) (ca_cons ce_int ca_nil))) ce_int))) (fun _ _ _ _ _ => (ce_var 8))) ca_nil))) (css_cons (cs_set 5 st.toStd.hN (ce_lstR ca_nil)) (css_cons (cs_for st.hp st.toStd.hc (ci_any (ce_var 1)) (cg_name 6 st.toStd.hN) (css_cons (cs_setLc 7 [("cell", 9)] st.toStd.hc st.toStd.hN (ci_range1 rfl (hf_range h) (ca_cons (ce_var 3) ca_nil)) (blkOk_by rfl) (by decide) (fun _ _ _ _ _ => (cg_name 9 (st.toStd).blk.hN)) (fun _ _ _ _ _ => (cts_one (ct_cmp (od_eq (st.toStd).blk.hr) (ce_fn (x := "_law_take") (fs_law_take h) (st.toStd).blk (by first | decide | omega) (by rfl) (ca_cons (ce_var 0) (ca_cons ce_int ca_nil))) ce_int))) (fun _ _ _ _ _ => (ce_var 9))) (css_one (cs_expr (ce_m PySem.F.plainAttrs_list PySem.F.slot_list_append PySem.F.type_list_append tyL_of mb_append (ce_var 5) (ca_cons (ce_tup (ca_cons (ce_var 6) (ca_cons (ce_Ty cb_tuple rfl (hf_tuple h) bt_tuple (ca_cons (ce_if (ct_cmp (od_ne st.toStd.hr) (ce_var 7) (ce_lst ca_nil)) (ce_var 7) (ce_lst (ca_cons (ce_fn (x := "_law_take") (fs_law_take h) st.toStd (by first | decide | omega) (by rfl) (ca_cons (ce_var 0) (ca_cons (ce_var 3) ca_nil))) ca_nil))) ca_nil)) ca_nil))) ca_nil)))))) (css_one (cs_ret (ce_tup (ca_cons (ce_var 3) (ca_cons (ce_var 4) (ca_cons (ce_Ty cb_tuple rfl (hf_tuple h) bt_tuple (ca_cons (ce_var 5) ca_nil)) ca_nil))))))))))))
theorem sc_law_some : FnScope ["bag", "things"] ["bag", "things"] (defScope (top 34)) := ⟨rfl, rfl, rfl, by decide +kernel, rfl, by decide +kernel, by decide +kernel⟩
theorem fs_law_some (h : HF K mg) : Fs P w K mg base 2 "_law_some" ["bag", "things"] f_law_some := by
  obtain ⟨fd, F⟩ := h.d.def_ 4 (d := dd_law_some) rfl
  exact (fs_mk (k := 1) F (hg_law_some h) (F.bindsN fun _ _ _ _ _ _ us hl => match us, hl with | [_, _], _ => rfl) sc_law_some fun cdv A outer s H E st => (show CSs _ (defBody (top 34)) m_law_some from (css_one (cs_ret (ce_ix st.toStd.hr (ce_var 1) (ce_fn (x := "_law_take") (fs_law_take h) st.toStd (by first | decide | omega) (by rfl) (ca_cons (ce_var 0) (ca_cons (ce_B cb_len rfl (hf_len h) bt_len (ca_cons (ce_var 1) ca_nil)) ca_nil))))))))
theorem sc_law_term : FnScope ["bag", "names", "deep", "way", "word", "k"] ["bag", "names", "deep"] (defScope (top 41)) := ⟨rfl, rfl, rfl, by decide +kernel, rfl, by decide +kernel, by decide +kernel⟩
theorem fs_law_term (h : HF K mg) : ∀ n, Fs P w K mg base (2 + n) "_law_term" ["bag", "names", "deep"] (f_law_term n)
  | 0 => by
    obtain ⟨fd, F⟩ := h.d.def_ 5 (d := dd_law_term) rfl
    exact fs_none F (hg_law_term h) (F.bindsN fun _ _ _ _ _ _ us hl => match us, hl with | [_, _, _], _ => rfl)
  | n + 1 => by
    obtain ⟨fd, F⟩ := h.d.def_ 5 (d := dd_law_term) rfl
    have hr := fs_law_term h n
    exact (fs_mk (k := 2 + n) F (hg_law_term h) (F.bindsN fun _ _ _ _ _ _ us hl => match us, hl with | [_, _, _], _ => rfl) sc_law_term fun cdv A outer s H E st => (show CSs _ (defBody (top 41)) (m_law_term (f_law_term n)) from (css_cons (cs_set 3 st.toStd.hN (ce_if (ct_cmp (od_cmp st.toStd.hr (.inr (.inr (.inl rfl)))) (ce_var 2) ce_int) (ce_fn (x := "_law_take") (fs_law_take h) st.toStd (by first | decide | omega) (by rfl) (ca_cons (ce_var 0) (ca_cons ce_int ca_nil))) (ce_fn (x := "_law_take") (fs_law_take h) st.toStd (by first | decide | omega) (by rfl) (ca_cons (ce_var 0) (ca_cons ce_int ca_nil))))) (css_cons (cs_if (ct_cmp (od_cmp st.toStd.hr (.inl rfl)) (ce_var 3) ce_int) (css_one (cs_ret (ce_tup (ca_cons (ce_str) (ca_cons (ce_fn (x := "_law_some") (fs_law_some h) st.toStd (by first | decide | omega) (by rfl) (ca_cons (ce_var 0) (ca_cons (ce_Ty cb_list rfl (hf_list h) bt_list (ca_cons (ce_var 1) ca_nil)) ca_nil))) ca_nil))))) css_nil) (css_cons (cs_if (ct_cmp (od_eq st.toStd.hr) (ce_var 3) ce_int) (css_one (cs_ret (ce_fn (x := "_law_some") (fs_law_some h) st.toStd (by first | decide | omega) (by rfl) (ca_cons (ce_var 0) (ca_cons (ce_lst (ca_cons (ce_tup (ca_cons (ce_str) ca_nil)) (ca_cons (ce_tup (ca_cons (ce_str) ca_nil)) (ca_cons (ce_tup (ca_cons (ce_str) (ca_cons (ce_ix st.toStd.hr (ce_var 1) ce_int) ca_nil))) ca_nil)))) ca_nil))))) css_nil) (css_cons (cs_if (ct_cmp (od_eq st.toStd.hr) (ce_var 3) ce_int) (css_one (cs_ret (ce_tup (ca_cons (ce_str) (ca_cons (ce_fn (x := "_law_term") hr st.toStd (by first | decide | omega) (by rfl) (ca_cons (ce_var 0) (ca_cons (ce_var 1) (ca_cons (ce_bin od_sub (ce_var 2) ce_int) ca_nil)))) ca_nil))))) css_nil) (css_cons (cs_set 4 st.toStd.hN (ce_fn (x := "_law_some") (fs_law_some h) st.toStd (by first | decide | omega) (by rfl) (ca_cons (ce_var 0) (ca_cons (ce_lst (ca_cons (ce_str) (ca_cons (ce_str) ca_nil))) ca_nil)))) (css_one (cs_ret (ce_bin od_add (ce_tup (ca_cons (ce_var 4) ca_nil)) (ce_Ty cb_tuple rfl (hf_tuple h) bt_tuple (ca_cons (ce_lc [("k", 5)] st.toStd.hc st.toStd.hN (ci_range1 rfl (hf_range h) (ca_cons (ce_bin od_add ce_int (ce_fn (x := "_law_take") (fs_law_take h) st.toStd (by first | decide | omega) (by rfl) (ca_cons (ce_var 0) (ca_cons ce_int ca_nil)))) ca_nil)) (blkOk_by rfl) (by decide) (fun _ _ _ _ _ => (cg_name 5 (st.toStd).blk.hN)) (fun _ _ _ _ _ => cts_nil) (fun _ _ _ _ _ => (ce_fn (x := "_law_term") hr (st.toStd).blk (by first | decide | omega) (by rfl) (ca_cons (ce_var 0) (ca_cons (ce_var 1) (ca_cons (ce_bin od_sub (ce_var 2) ce_int) ca_nil)))))) ca_nil))))))))))))
theorem sc_law_wish : FnScope ["bag", "names", "word"] ["bag", "names"] (defScope (top 42)) := ⟨rfl, rfl, rfl, by decide +kernel, rfl, by decide +kernel, by decide +kernel⟩
theorem fs_law_wish (h : HF K mg) : Fs P w K mg base 7 "_law_wish" ["bag", "names"] f_law_wish := by
  obtain ⟨fd, F⟩ := h.d.def_ 6 (d := dd_law_wish) rfl
  exact (fs_mk (k := 6) F (hg_law_wish h) (F.bindsN fun _ _ _ _ _ _ us hl => match us, hl with | [_, _], _ => rfl) sc_law_wish fun cdv A outer s H E st => (show CSs _ (defBody (top 42)) m_law_wish from (css_cons (cs_set 2 st.toStd.hN (ce_fn (x := "_law_some") (fs_law_some h) st.toStd (by first | decide | omega) (by rfl) (ca_cons (ce_var 0) (ca_cons (ce_lst (ca_cons (ce_str) (ca_cons (ce_str) (ca_cons (ce_str) (ca_cons (ce_str) ca_nil))))) ca_nil)))) (css_cons (cs_if (ct_cmp (od_in st.toStd.hr) (ce_var 2) (ce_tup (ca_cons (ce_str) (ca_cons (ce_str) ca_nil)))) (css_one (cs_ret (ce_tup (ca_cons (ce_var 2) (ca_cons (ce_fn (x := "_law_term") (fs_law_term h 4) st.toStd (by first | decide | omega) (by rfl) (ca_cons (ce_var 0) (ca_cons (ce_var 1) (ca_cons ce_int ca_nil)))) ca_nil))))) css_nil) (css_one (cs_ret (ce_tup (ca_cons (ce_var 2) (ca_cons (ce_fn (x := "_law_term") (fs_law_term h 4) st.toStd (by first | decide | omega) (by rfl) (ca_cons (ce_var 0) (ca_cons (ce_var 1) (ca_cons ce_int ca_nil)))) (ca_cons (ce_fn (x := "_law_term") (fs_law_term h 4) st.toStd (by first | decide | omega) (by rfl) (ca_cons (ce_var 0) (ca_cons (ce_var 1) (ca_cons ce_int ca_nil)))) ca_nil))))))))))
theorem sc_law_member : FnScope ["its", "cell", "name", "cells"] ["its", "cell"] (defScope (top 38)) := ⟨rfl, rfl, rfl, by decide +kernel, rfl, by decide +kernel, by decide +kernel⟩
theorem fs_law_member (h : HF K mg) : Fs P w K mg base 1 "_law_member" ["its", "cell"] f_law_member := by
  obtain ⟨fd, F⟩ := h.d.def_ 7 (d := dd_law_member) rfl
  exact (fs_mk (k := 0) F (hg_law_member h) (F.bindsN fun _ _ _ _ _ _ us hl => match us, hl with | [_, _], _ => rfl) sc_law_member fun cdv A outer s H E st => (show CSs _ (defBody (top 38)) m_law_member from (css_one (cs_ret (ce_Ty cb_tuple rfl (hf_tuple h) bt_tuple (ca_cons (ce_lc [("name", 2), ("cells", 3)] st.toStd.hc st.toStd.hN (ci_any (ce_ix st.toStd.hr (ce_var 0) ce_int)) (blkOk_by rfl) (by decide) (fun _ _ _ _ _ => (cg_tup (st.toStd).blk.hc (cgs_cons (cg_name 2 (st.toStd).blk.hN) (cgs_cons (cg_name 3 (st.toStd).blk.hN) cgs_nil)))) (fun _ _ _ _ _ => (cts_one (ct_cmp (od_in (st.toStd).blk.hr) (ce_var 1) (ce_var 3)))) (fun _ _ _ _ _ => (ce_var 2))) ca_nil)))))).A
theorem sc_law_is_in : FnScope ["term", "names", "word", "told", "part"] ["term", "names"] (defScope (top 39)) := ⟨rfl, rfl, rfl, by decide +kernel, rfl, by decide +kernel, by decide +kernel⟩
theorem fs_law_is_in (h : HF K mg) : ∀ n, Fs P w K mg base (0 + n) "_law_is_in" ["term", "names"] (f_law_is_in n)
  | 0 => by
    obtain ⟨fd, F⟩ := h.d.def_ 8 (d := dd_law_is_in) rfl
    exact fs_none F (hg_law_is_in h) (F.bindsN fun _ _ _ _ _ _ us hl => match us, hl with | [_, _], _ => rfl)
  | n + 1 => by
    obtain ⟨fd, F⟩ := h.d.def_ 8 (d := dd_law_is_in) rfl
    have hr := fs_law_is_in h n
    exact (fs_mk (k := 0 + n) F (hg_law_is_in h) (F.bindsN fun _ _ _ _ _ _ us hl => match us, hl with | [_, _], _ => rfl) sc_law_is_in fun cdv A outer s H E st => (show CSs _ (defBody (top 39)) (m_law_is_in (f_law_is_in n)) from (css_cons (cs_set 2 st.toStd.hN (ce_ix st.toStd.hr (ce_var 0) ce_int)) (css_cons (cs_if (ct_cmp (od_eq st.toStd.hr) (ce_var 2) (ce_str)) (css_one (cs_ret (ce_cmp (od_in st.toStd.hr) (ce_ix st.toStd.hr (ce_var 0) ce_int) (ce_var 1)))) css_nil) (css_cons (cs_if (ct_cmp (od_in st.toStd.hr) (ce_var 2) (ce_tup (ca_cons (ce_str) (ca_cons (ce_str) ca_nil)))) (css_one (cs_ret (ce_cmp (od_eq st.toStd.hr) (ce_var 2) (ce_str)))) css_nil) (css_cons (cs_if (ct_cmp (od_eq st.toStd.hr) (ce_var 2) (ce_str)) (css_one (cs_ret (ce_not (ce_fn (x := "_law_is_in") hr st.toStd (by first | decide | omega) (by rfl) (ca_cons (ce_ix st.toStd.hr (ce_var 0) ce_int) (ca_cons (ce_var 1) ca_nil)))))) css_nil) (css_cons (cs_setLc 3 [("part", 4)] st.toStd.hc st.toStd.hN (ci_any (ce_slice (ce_var 0) (co_some ce_int) co_none)) (blkOk_by rfl) (by decide) (fun _ _ _ _ _ => (cg_name 4 (st.toStd).blk.hN)) (fun _ _ _ _ _ => cts_nil) (fun _ _ _ _ _ => (ce_fn (x := "_law_is_in") hr (st.toStd).blk (by first | decide | omega) (by rfl) (ca_cons (ce_var 4) (ca_cons (ce_var 1) ca_nil))))) (css_one (cs_ret (ce_if (ct_cmp (od_eq st.toStd.hr) (ce_var 2) (ce_str)) (ce_cmp (od_notIn st.toStd.hr) ce_bl (ce_var 3)) (ce_cmp (od_in st.toStd.hr) ce_bl (ce_var 3)))))))))))).A
theorem sc_law_keeps : FnScope ["its", "wish", "word", "there", "a", "b", "one", "other", "cell"] ["its", "wish"] (defScope (top 40)) := ⟨rfl, rfl, rfl, by decide +kernel, rfl, by decide +kernel, by decide +kernel⟩
theorem fs_law_keeps (h : HF K mg) : Fs P w K mg base 9 "_law_keeps" ["its", "wish"] f_law_keeps := by
  obtain ⟨fd, F⟩ := h.d.def_ 9 (d := dd_law_keeps) rfl
  exact (fs_mk (k := 8) F (hg_law_keeps h) (F.bindsN fun _ _ _ _ _ _ us hl => match us, hl with | [_, _], _ => rfl) sc_law_keeps fun cdv A outer s H E st => (show CSs _ (defBody (top 40)) m_law_keeps from (css_cons (cs_set 2 st.toStd.hN (ce_ix st.toStd.hr (ce_var 1) ce_int)) (css_cons (cs_if (ct_cmp (od_in st.toStd.hr) (ce_var 2) (ce_tup (ca_cons (ce_str) (ca_cons (ce_str) ca_nil)))) (css_cons (cs_setLc 3 [("cell", 8)] st.toStd.hc st.toStd.hN (ci_range1 rfl (hf_range h) (ca_cons (ce_ix st.toStd.hr (ce_var 0) ce_int) ca_nil)) (blkOk_by rfl) (by decide) (fun _ _ _ _ _ => (cg_name 8 (st.toStd).blk.hN)) (fun _ _ _ _ _ => (cts_one (ct_val (ce_fn (x := "_law_is_in") (fs_law_is_in h 8) (st.toStd).blk (by first | decide | omega) (by rfl) (ca_cons (ce_ix (st.toStd).blk.hr (ce_var 1) ce_int) (ca_cons (ce_fn (x := "_law_member") (fs_law_member h) (st.toStd).blk (by first | decide | omega) (by rfl) (ca_cons (ce_var 0) (ca_cons (ce_var 8) ca_nil))) ca_nil)))))) (fun _ _ _ _ _ => (ce_var 8))) (css_one (cs_ret (ce_cmp (od_eq st.toStd.hr) (ce_cmp (od_ne st.toStd.hr) (ce_var 3) (ce_lst ca_nil)) (ce_cmp (od_eq st.toStd.hr) (ce_var 2) (ce_str)))))) css_nil) (css_cons (cs_set 3 st.toStd.hN ce_bl) (css_cons (cs_for st.hp st.toStd.hc (ci_any (ce_ix st.toStd.hr (ce_var 0) ce_int)) (cg_tup st.toStd.hc (cgs_cons (cg_name 4 st.toStd.hN) (cgs_cons (cg_name 5 st.toStd.hN) cgs_nil))) (css_cons (cs_par 6 7 st.toStd.hc st.toStd.hN (ca_cons (ce_fn (x := "_law_member") (fs_law_member h) st.toStd (by first | decide | omega) (by rfl) (ca_cons (ce_var 0) (ca_cons (ce_var 4) ca_nil))) (ca_cons (ce_fn (x := "_law_member") (fs_law_member h) st.toStd (by first | decide | omega) (by rfl) (ca_cons (ce_var 0) (ca_cons (ce_var 5) ca_nil))) ca_nil))) (css_cons (cs_set 3 st.toStd.hN (ce_or (ce_var 3) (ce_one (ce_and (ce_fn (x := "_law_is_in") (fs_law_is_in h 8) st.toStd (by first | decide | omega) (by rfl) (ca_cons (ce_ix st.toStd.hr (ce_var 1) ce_int) (ca_cons (ce_var 6) ca_nil))) (ce_one (ce_fn (x := "_law_is_in") (fs_law_is_in h 8) st.toStd (by first | decide | omega) (by rfl) (ca_cons (ce_ix st.toStd.hr (ce_var 1) ce_int) (ca_cons (ce_var 7) ca_nil)))))))) (css_one (cs_set 3 st.toStd.hN (ce_or (ce_var 3) (ce_one (ce_and (ce_fn (x := "_law_is_in") (fs_law_is_in h 8) st.toStd (by first | decide | omega) (by rfl) (ca_cons (ce_ix st.toStd.hr (ce_var 1) ce_int) (ca_cons (ce_var 7) ca_nil))) (ce_one (ce_fn (x := "_law_is_in") (fs_law_is_in h 8) st.toStd (by first | decide | omega) (by rfl) (ca_cons (ce_ix st.toStd.hr (ce_var 1) ce_int) (ca_cons (ce_var 6) ca_nil)))))))))))) (css_one (cs_ret (ce_cmp (od_eq st.toStd.hr) (ce_var 3) (ce_cmp (od_eq st.toStd.hr) (ce_var 2) (ce_str))))))))))).A
theorem sc_law_seams_of : FnScope ["its", "ones", "others", "found", "a", "b"] ["its", "ones", "others"] (defScope (top 45)) := ⟨rfl, rfl, rfl, by decide +kernel, rfl, by decide +kernel, by decide +kernel⟩
theorem fs_law_seams_of (h : HF K mg) : Fs P w K mg base 1 "_law_seams_of" ["its", "ones", "others"] f_law_seams_of := by
  obtain ⟨fd, F⟩ := h.d.def_ 10 (d := dd_law_seams_of) rfl
  exact (fs_mk (k := 0) F (hg_law_seams_of h) (F.bindsN fun _ _ _ _ _ _ us hl => match us, hl with | [_, _, _], _ => rfl) sc_law_seams_of fun cdv A outer s H E st => (show CSs _ (defBody (top 45)) m_law_seams_of from (css_cons (cs_set 3 st.toStd.hN (ce_lstR ca_nil)) (css_cons (cs_for st.hp st.toStd.hc (ci_any (ce_ix st.toStd.hr (ce_var 0) ce_int)) (cg_tup st.toStd.hc (cgs_cons (cg_name 4 st.toStd.hN) (cgs_cons (cg_name 5 st.toStd.hN) cgs_nil))) (css_one (cs_expr (ce_m PySem.F.plainAttrs_list PySem.F.slot_list_extend PySem.F.type_list_extend tyL_of mb_extend (ce_var 3) (ca_cons (ce_if (ct_w (cw_or (ct_w (cw_and (ct_cmp (od_in st.toStd.hr) (ce_var 4) (ce_var 1)) (cw_and1 (ct_cmp (od_in st.toStd.hr) (ce_var 5) (ce_var 2))))) (cw_or1 (ct_w (cw_and (ct_cmp (od_in st.toStd.hr) (ce_var 5) (ce_var 1)) (cw_and1 (ct_cmp (od_in st.toStd.hr) (ce_var 4) (ce_var 2)))))))) (ce_lst (ca_cons (ce_tup (ca_cons (ce_var 4) (ca_cons (ce_var 5) ca_nil))) ca_nil)) (ce_lst ca_nil)) ca_nil))))) (css_one (cs_ret (ce_Ty cb_tuple rfl (hf_tuple h) bt_tuple (ca_cons (ce_var 3) ca_nil)))))))).A
theorem sc_law_cells_of : FnScope ["its", "term", "cell"] ["its", "term"] (defScope (top 46)) := ⟨rfl, rfl, rfl, by decide +kernel, rfl, by decide +kernel, by decide +kernel⟩
theorem fs_law_cells_of (h : HF K mg) : Fs P w K mg base 9 "_law_cells_of" ["its", "term"] f_law_cells_of := by
  obtain ⟨fd, F⟩ := h.d.def_ 11 (d := dd_law_cells_of) rfl
  exact (fs_mk (k := 8) F (hg_law_cells_of h) (F.bindsN fun _ _ _ _ _ _ us hl => match us, hl with | [_, _], _ => rfl) sc_law_cells_of fun cdv A outer s H E st => (show CSs _ (defBody (top 46)) m_law_cells_of from (css_one (cs_ret (ce_Ty cb_tuple rfl (hf_tuple h) bt_tuple (ca_cons (ce_lc [("cell", 2)] st.toStd.hc st.toStd.hN (ci_range1 rfl (hf_range h) (ca_cons (ce_ix st.toStd.hr (ce_var 0) ce_int) ca_nil)) (blkOk_by rfl) (by decide) (fun _ _ _ _ _ => (cg_name 2 (st.toStd).blk.hN)) (fun _ _ _ _ _ => (cts_one (ct_val (ce_fn (x := "_law_is_in") (fs_law_is_in h 8) (st.toStd).blk (by first | decide | omega) (by rfl) (ca_cons (ce_var 1) (ca_cons (ce_fn (x := "_law_member") (fs_law_member h) (st.toStd).blk (by first | decide | omega) (by rfl) (ca_cons (ce_var 0) (ca_cons (ce_var 2) ca_nil))) ca_nil)))))) (fun _ _ _ _ _ => (ce_var 2))) ca_nil)))))).A
theorem sc_law_shown : FnScope ["its", "wish"] ["its", "wish"] (defScope (top 47)) := ⟨rfl, rfl, rfl, by decide +kernel, rfl, by decide +kernel, by decide +kernel⟩
theorem fs_law_shown (h : HF K mg) : Fs P w K mg base 10 "_law_shown" ["its", "wish"] f_law_shown := by
  obtain ⟨fd, F⟩ := h.d.def_ 12 (d := dd_law_shown) rfl
  exact (fs_mk (k := 9) F (hg_law_shown h) (F.bindsN fun _ _ _ _ _ _ us hl => match us, hl with | [_, _], _ => rfl) sc_law_shown fun cdv A outer s H E st => (show CSs _ (defBody (top 47)) m_law_shown from (css_cons (cs_if (ct_cmp (od_in st.toStd.hr) (ce_ix st.toStd.hr (ce_var 1) ce_int) (ce_tup (ca_cons (ce_str) (ca_cons (ce_str) ca_nil)))) (css_one (cs_ret (ce_fn (x := "_law_cells_of") (fs_law_cells_of h) st.toStd (by first | decide | omega) (by rfl) (ca_cons (ce_var 0) (ca_cons (ce_ix st.toStd.hr (ce_var 1) ce_int) ca_nil))))) css_nil) (css_one (cs_ret (ce_fn (x := "_law_seams_of") (fs_law_seams_of h) st.toStd (by first | decide | omega) (by rfl) (ca_cons (ce_var 0) (ca_cons (ce_fn (x := "_law_cells_of") (fs_law_cells_of h) st.toStd (by first | decide | omega) (by rfl) (ca_cons (ce_var 0) (ca_cons (ce_ix st.toStd.hr (ce_var 1) ce_int) ca_nil))) (ca_cons (ce_fn (x := "_law_cells_of") (fs_law_cells_of h) st.toStd (by first | decide | omega) (by rfl) (ca_cons (ce_var 0) (ca_cons (ce_ix st.toStd.hr (ce_var 1) ce_int) ca_nil))) ca_nil))))))))).A
theorem sc_law_is_int : FnScope ["thing"] ["thing"] (defScope (top 43)) := ⟨rfl, rfl, rfl, by decide +kernel, rfl, by decide +kernel, by decide +kernel⟩
theorem fs_law_is_int (h : HF K mg) : Fs P w K mg base 1 "_law_is_int" ["thing"] f_law_is_int := by
  obtain ⟨fd, F⟩ := h.d.def_ 13 (d := dd_law_is_int) rfl
  exact (fs_mk (k := 0) F (hg_law_is_int h) (F.bindsN fun _ _ _ _ _ _ us hl => match us, hl with | [_], _ => rfl) sc_law_is_int fun cdv A outer s H E st => (show CSs _ (defBody (top 43)) m_law_is_int from (css_one (cs_ret (ce_and (ce_isi .int rfl (hf_isinstance h) (ce_var 0) rfl (hf_int h)) (ce_one (ce_not (ce_isi .bool rfl (hf_isinstance h) (ce_var 0) rfl (hf_bool h))))))))).A
theorem sc_law_is_count : FnScope ["thing"] ["thing"] (defScope (top 44)) := ⟨rfl, rfl, rfl, by decide +kernel, rfl, by decide +kernel, by decide +kernel⟩
theorem fs_law_is_count (h : HF K mg) : Fs P w K mg base 2 "_law_is_count" ["thing"] f_law_is_count := by
  obtain ⟨fd, F⟩ := h.d.def_ 14 (d := dd_law_is_count) rfl
  exact (fs_mk (k := 1) F (hg_law_is_count h) (F.bindsN fun _ _ _ _ _ _ us hl => match us, hl with | [_], _ => rfl) sc_law_is_count fun cdv A outer s H E st => (show CSs _ (defBody (top 44)) m_law_is_count from (css_one (cs_ret (ce_and (ce_fn (x := "_law_is_int") (fs_law_is_int h) st.toStd (by first | decide | omega) (by rfl) (ca_cons (ce_var 0) ca_nil)) (ce_one (ce_cmp (od_cmp st.toStd.hr (.inr (.inr (.inr rfl)))) (ce_var 0) ce_int))))))).A
theorem sc_law_is_shown : FnScope ["its", "wish", "thing"] ["its", "wish", "thing"] (defScope (top 49)) := ⟨rfl, rfl, rfl, by decide +kernel, rfl, by decide +kernel, by decide +kernel⟩
theorem fs_law_is_shown (h : HF K mg) : Fs P w K mg base 11 "_law_is_shown" ["its", "wish", "thing"] f_law_is_shown := by
  obtain ⟨fd, F⟩ := h.d.def_ 15 (d := dd_law_is_shown) rfl
  exact (fs_mk (k := 10) F (hg_law_is_shown h) (F.bindsN fun _ _ _ _ _ _ us hl => match us, hl with | [_, _, _], _ => rfl) sc_law_is_shown fun cdv A outer s H E st => (show CSs _ (defBody (top 49)) m_law_is_shown from (css_cons (cs_if (ct_cmp (od_in st.toStd.hr) (ce_ix st.toStd.hr (ce_var 1) ce_int) (ce_tup (ca_cons (ce_str) (ca_cons (ce_str) ca_nil)))) (css_one (cs_ret (ce_and (ce_fn (x := "_law_is_count") (fs_law_is_count h) st.toStd (by first | decide | omega) (by rfl) (ca_cons (ce_var 2) ca_nil)) (ce_one (ce_cmp (od_in st.toStd.hr) (ce_var 2) (ce_fn (x := "_law_shown") (fs_law_shown h) st.toStd (by first | decide | omega) (by rfl) (ca_cons (ce_var 0) (ca_cons (ce_var 1) ca_nil)))))))) css_nil) (css_cons (cs_if (ct_w (cw_or (ct_not (ct_val (ce_isi .tuple rfl (hf_isinstance h) (ce_var 2) rfl (hf_tuple h)))) (cw_or (ct_cmp (od_ne st.toStd.hr) (ce_B cb_len rfl (hf_len h) bt_len (ca_cons (ce_var 2) ca_nil)) ce_int) (cw_or (ct_not (ct_val (ce_fn (x := "_law_is_count") (fs_law_is_count h) st.toStd (by first | decide | omega) (by rfl) (ca_cons (ce_ix st.toStd.hr (ce_var 2) ce_int) ca_nil)))) (cw_or1 (ct_not (ct_val (ce_fn (x := "_law_is_count") (fs_law_is_count h) st.toStd (by first | decide | omega) (by rfl) (ca_cons (ce_ix st.toStd.hr (ce_var 2) ce_int) ca_nil))))))))) (css_one (cs_ret ce_bl)) css_nil) (css_one (cs_ret (ce_cmp (od_in st.toStd.hr) (ce_var 2) (ce_fn (x := "_law_shown") (fs_law_shown h) st.toStd (by first | decide | omega) (by rfl) (ca_cons (ce_var 0) (ca_cons (ce_var 1) ca_nil)))))))))).A
theorem sc_law_is_paper : FnScope ["its", "wishes", "thing", "wish", "row"] ["its", "wishes", "thing"] (defScope (top 50)) := ⟨rfl, rfl, rfl, by decide +kernel, rfl, by decide +kernel, by decide +kernel⟩
theorem fs_law_is_paper (h : HF K mg) : Fs P w K mg base 12 "_law_is_paper" ["its", "wishes", "thing"] f_law_is_paper := by
  obtain ⟨fd, F⟩ := h.d.def_ 16 (d := dd_law_is_paper) rfl
  exact (fs_mk (k := 11) F (hg_law_is_paper h) (F.bindsN fun _ _ _ _ _ _ us hl => match us, hl with | [_, _, _], _ => rfl) sc_law_is_paper fun cdv A outer s H E st => (show CSs _ (defBody (top 50)) m_law_is_paper from (css_cons (cs_if (ct_w (cw_or (ct_not (ct_val (ce_isi .tuple rfl (hf_isinstance h) (ce_var 2) rfl (hf_tuple h)))) (cw_or (ct_cmp (od_eq st.toStd.hr) (ce_var 2) (ce_tup ca_nil)) (cw_or1 (ct_not (ct_val (ce_isi .str rfl (hf_isinstance h) (ce_ix st.toStd.hr (ce_var 2) ce_int) rfl (hf_str h)))))))) (css_one (cs_ret ce_bl)) css_nil) (css_cons (cs_if (ct_cmp (od_eq st.toStd.hr) (ce_ix st.toStd.hr (ce_var 2) ce_int) (ce_str)) (css_cons (cs_if (ct_w (cw_or (ct_cmp (od_ne st.toStd.hr) (ce_B cb_len rfl (hf_len h) bt_len (ca_cons (ce_var 2) ca_nil)) ce_int) (cw_or (ct_not (ct_val (ce_isi .tuple rfl (hf_isinstance h) (ce_ix st.toStd.hr (ce_var 2) ce_int) rfl (hf_tuple h)))) (cw_or1 (ct_cmp (od_ne st.toStd.hr) (ce_B cb_len rfl (hf_len h) bt_len (ca_cons (ce_ix st.toStd.hr (ce_var 2) ce_int) ca_nil)) (ce_B cb_len rfl (hf_len h) bt_len (ca_cons (ce_var 1) ca_nil))))))) (css_one (cs_ret ce_bl)) css_nil) (css_cons (cs_for st.hp st.toStd.hc (ci_zip rfl (hf_zip h) (ca_cons (ce_var 1) (ca_cons (ce_ix st.toStd.hr (ce_var 2) ce_int) ca_nil))) (cg_tup st.toStd.hc (cgs_cons (cg_name 3 st.toStd.hN) (cgs_cons (cg_name 4 st.toStd.hN) cgs_nil))) (css_one (cs_if (ct_w (cw_or (ct_w (cw_and (ct_cmp (od_in st.toStd.hr) (ce_ix st.toStd.hr (ce_var 3) ce_int) (ce_tup (ca_cons (ce_str) (ca_cons (ce_str) ca_nil)))) (cw_and1 (ct_not (ct_val (ce_fn (x := "_law_is_shown") (fs_law_is_shown h) st.toStd (by first | decide | omega) (by rfl) (ca_cons (ce_var 0) (ca_cons (ce_var 3) (ca_cons (ce_var 4) ca_nil))))))))) (cw_or1 (ct_w (cw_and (ct_cmp (od_in st.toStd.hr) (ce_ix st.toStd.hr (ce_var 3) ce_int) (ce_tup (ca_cons (ce_str) (ca_cons (ce_str) ca_nil)))) (cw_and1 (ct_w (cw_or (ct_cmp od_isNot (ce_var 4) ce_non) (cw_or1 (ct_not (ct_val (ce_fn (x := "_law_keeps") (fs_law_keeps h) st.toStd (by first | decide | omega) (by rfl) (ca_cons (ce_var 0) (ca_cons (ce_var 3) ca_nil)))))))))))))) (css_one (cs_ret ce_bl)) css_nil))) (css_one (cs_ret ce_bl)))) css_nil) (css_cons (cs_if (ct_w (cw_or (ct_cmp (od_ne st.toStd.hr) (ce_ix st.toStd.hr (ce_var 2) ce_int) (ce_str)) (cw_or (ct_cmp (od_ne st.toStd.hr) (ce_B cb_len rfl (hf_len h) bt_len (ca_cons (ce_var 2) ca_nil)) ce_int) (cw_or (ct_not (ct_val (ce_fn (x := "_law_is_count") (fs_law_is_count h) st.toStd (by first | decide | omega) (by rfl) (ca_cons (ce_ix st.toStd.hr (ce_var 2) ce_int) ca_nil)))) (cw_or1 (ct_cmp (od_cmp st.toStd.hr (.inr (.inr (.inr rfl)))) (ce_ix st.toStd.hr (ce_var 2) ce_int) (ce_B cb_len rfl (hf_len h) bt_len (ca_cons (ce_var 1) ca_nil)))))))) (css_one (cs_ret ce_bl)) css_nil) (css_cons (cs_set 3 st.toStd.hN (ce_ix st.toStd.hr (ce_var 1) (ce_ix st.toStd.hr (ce_var 2) ce_int))) (css_cons (cs_if (ct_val (ce_fn (x := "_law_keeps") (fs_law_keeps h) st.toStd (by first | decide | omega) (by rfl) (ca_cons (ce_var 0) (ca_cons (ce_var 3) ca_nil)))) (css_one (cs_ret ce_bl)) css_nil) (css_one (cs_ret (ce_if (ct_cmp (od_in st.toStd.hr) (ce_ix st.toStd.hr (ce_var 3) ce_int) (ce_tup (ca_cons (ce_str) (ca_cons (ce_str) ca_nil)))) (ce_cmp od_is (ce_ix st.toStd.hr (ce_var 2) ce_int) ce_non) (ce_fn (x := "_law_is_shown") (fs_law_is_shown h) st.toStd (by first | decide | omega) (by rfl) (ca_cons (ce_var 0) (ca_cons (ce_var 3) (ca_cons (ce_ix st.toStd.hr (ce_var 2) ce_int) ca_nil)))))))))))))).A
theorem sc_law_alike : FnScope ["found", "due"] ["found", "due"] (defScope (top 35)) := ⟨rfl, rfl, rfl, by decide +kernel, rfl, by decide +kernel, by decide +kernel⟩
theorem fs_law_alike (h : HF K mg) : Fs P w K mg base 1 "_law_alike" ["found", "due"] f_law_alike := by
  obtain ⟨fd, F⟩ := h.d.def_ 17 (d := dd_law_alike) rfl
  exact (fs_mk (k := 0) F (hg_law_alike h) (F.bindsN fun _ _ _ _ _ _ us hl => match us, hl with | [_, _], _ => rfl) sc_law_alike fun cdv A outer s H E st => (show CSs _ (defBody (top 35)) alikeC from (css_one (cs_ret (ce_and (ce_cmp (od_eq st.toStd.hr) (ce_B (cb_repr st.toStd.hr st.toStd.hg) rfl (hf_repr h) bt_repr (ca_cons (ce_var 0) ca_nil)) (ce_B (cb_repr st.toStd.hr st.toStd.hg) rfl (hf_repr h) bt_repr (ca_cons (ce_var 1) ca_nil))) (ce_one (ce_cmp (od_eq st.toStd.hr) (ce_var 0) (ce_var 1)))))))).imp alike_ok
theorem sc_asks : FnScope ["wish"] ["wish"] (defScope (top 22)) := ⟨rfl, rfl, rfl, by decide +kernel, rfl, by decide +kernel, by decide +kernel⟩
theorem fs_asks (h : HF K mg) : Fs P w K mg base 1 "asks" ["wish"] f_asks := by
  obtain ⟨fd, F⟩ := h.d.def_ 18 (d := dd_asks) rfl
  exact (fs_mk (k := 0) F (hg_asks h) (F.bindsN fun _ _ _ _ _ _ us hl => match us, hl with | [_], _ => rfl) sc_asks fun cdv A outer s H E st => (show CSs _ (defBody (top 22)) m_asks from (css_one (cs_ret (ce_cmp (od_in st.toStd.hr) (ce_ix st.toStd.hr (ce_var 0) ce_int) (ce_tup (ca_cons (ce_str) (ca_cons (ce_str) ca_nil)))))))).A
theorem sc_names_of : FnScope ["its", "name", "cells"] ["its"] (defScope (top 10)) := ⟨rfl, rfl, rfl, by decide +kernel, rfl, by decide +kernel, by decide +kernel⟩
theorem fs_names_of (h : HF K mg) : Fs P w K mg base 1 "names_of" ["its"] f_names_of := by
  obtain ⟨fd, F⟩ := h.d.def_ 19 (d := dd_names_of) rfl
  exact (fs_mk (k := 0) F (hg_names_of h) (F.bindsN fun _ _ _ _ _ _ us hl => match us, hl with | [_], _ => rfl) sc_names_of fun cdv A outer s H E st => (show CSs _ (defBody (top 10)) m_names_of from (css_one (cs_ret (ce_Ty cb_tuple rfl (hf_tuple h) bt_tuple (ca_cons (ce_lc [("name", 1), ("cells", 2)] st.toStd.hc st.toStd.hN (ci_any (ce_ix st.toStd.hr (ce_var 0) ce_int)) (blkOk_by rfl) (by decide) (fun _ _ _ _ _ => (cg_tup (st.toStd).blk.hc (cgs_cons (cg_name 1 (st.toStd).blk.hN) (cgs_cons (cg_name 2 (st.toStd).blk.hN) cgs_nil)))) (fun _ _ _ _ _ => cts_nil) (fun _ _ _ _ _ => (ce_var 1))) ca_nil)))))).A
theorem sc_inner : FnScope ["part"] ["part"] (defScope (top 15)) := ⟨rfl, rfl, rfl, by decide +kernel, rfl, by decide +kernel, by decide +kernel⟩
theorem fs_inner (h : HF K mg) : Fs P w K mg base 1 "inner" ["part"] f_inner := by
  obtain ⟨fd, F⟩ := h.d.def_ 20 (d := dd_inner) rfl
  exact (fs_mk (k := 0) F (hg_inner h) (F.bindsN fun _ _ _ _ _ _ us hl => match us, hl with | [_], _ => rfl) sc_inner fun cdv A outer s H E st => (show CSs _ (defBody (top 15)) m_inner from (css_one (cs_ret (ce_if (ct_cmp (od_in st.toStd.hr) (ce_ix st.toStd.hr (ce_var 0) ce_int) (ce_tup (ca_cons (ce_str) (ca_cons (ce_str) (ca_cons (ce_str) ca_nil))))) (ce_slice (ce_var 0) (co_some ce_int) co_none) (ce_tup ca_nil)))))).A
theorem sc_parts_of : FnScope ["term", "found", "waiting", "where", "part", "at", "one"] ["term"] (defScope (top 16)) := ⟨rfl, rfl, rfl, by decide +kernel, rfl, by decide +kernel, by decide +kernel⟩
theorem fs_parts_of (h : HF K mg) : Fs P w K mg base 2 "parts_of" ["term"] f_parts_of := by
  obtain ⟨fd, F⟩ := h.d.def_ 21 (d := dd_parts_of) rfl
  exact (fs_mk (k := 1) F (hg_parts_of h) (F.bindsN fun _ _ _ _ _ _ us hl => match us, hl with | [_], _ => rfl) sc_parts_of fun cdv A outer s H E st => (show CSs _ (defBody (top 16)) m_parts_of from (css_cons (cs_par 1 2 st.toStd.hc st.toStd.hN (ca_cons (ce_lstR ca_nil) (ca_cons (ce_lstR (ca_cons (ce_tup (ca_cons (ce_tup ca_nil) (ca_cons (ce_var 0) ca_nil))) ca_nil)) ca_nil))) (css_cons (cs_while 1000 st.hp (ct_cmp (od_ne st.toStd.hr) (ce_var 2) (ce_lst ca_nil)) (css_cons (cs_asg (ce_m0 PySem.F.plainAttrs_list PySem.F.slot_list_pop PySem.F.type_list_pop tyL_of mb_pop (ce_var 2)) (cg_tup st.toStd.hc (cgs_cons (cg_name 3 st.toStd.hN) (cgs_cons (cg_name 4 st.toStd.hN) cgs_nil)))) (css_cons (cs_expr (ce_m PySem.F.plainAttrs_list PySem.F.slot_list_append PySem.F.type_list_append tyL_of mb_append (ce_var 1) (ca_cons (ce_tup (ca_cons (ce_var 3) (ca_cons (ce_var 4) ca_nil))) ca_nil))) (css_one (cs_expr (ce_m PySem.F.plainAttrs_list PySem.F.slot_list_extend PySem.F.type_list_extend tyL_of mb_extend (ce_var 2) (ca_cons (ce_rev (ce_lc [("at", 5), ("one", 6)] st.toStd.hc st.toStd.hN (ci_enum rfl (hf_enumerate h) (ca_cons (ce_fn (x := "inner") (fs_inner h) st.toStd (by first | decide | omega) (by rfl) (ca_cons (ce_var 4) ca_nil)) ca_nil)) (blkOk_by rfl) (by decide) (fun _ _ _ _ _ => (cg_tup (st.toStd).blk.hc (cgs_cons (cg_name 5 (st.toStd).blk.hN) (cgs_cons (cg_name 6 (st.toStd).blk.hN) cgs_nil)))) (fun _ _ _ _ _ => cts_nil) (fun _ _ _ _ _ => (ce_tup (ca_cons (ce_bin od_add (ce_var 3) (ce_tup (ca_cons (ce_bin od_add (ce_var 5) ce_int) ca_nil))) (ca_cons (ce_var 6) ca_nil)))))) ca_nil))))))) (css_one (cs_ret (ce_Ty cb_tuple rfl (hf_tuple h) bt_tuple (ca_cons (ce_var 1) ca_nil)))))))).A
theorem sc_truth_of : FnScope ["part", "truths", "there"] ["part", "truths", "there"] (defScope (top 18)) := ⟨rfl, rfl, rfl, by decide +kernel, rfl, by decide +kernel, by decide +kernel⟩
theorem fs_truth_of (h : HF K mg) : Fs P w K mg base 1 "truth_of" ["part", "truths", "there"] f_truth_of := by
  obtain ⟨fd, F⟩ := h.d.def_ 22 (d := dd_truth_of) rfl
  exact (fs_mk (k := 0) F (hg_truth_of h) (F.bindsN fun _ _ _ _ _ _ us hl => match us, hl with | [_, _, _], _ => rfl) sc_truth_of fun cdv A outer s H E st => (show CSs _ (defBody (top 18)) m_truth_of from (css_cons (cs_if (ct_cmp (od_eq st.toStd.hr) (ce_ix st.toStd.hr (ce_var 0) ce_int) (ce_str)) (css_one (cs_ret (ce_cmp (od_in st.toStd.hr) (ce_ix st.toStd.hr (ce_var 0) ce_int) (ce_var 2)))) css_nil) (css_cons (cs_if (ct_cmp (od_eq st.toStd.hr) (ce_ix st.toStd.hr (ce_var 0) ce_int) (ce_str)) (css_one (cs_ret (ce_not (ce_ix st.toStd.hr (ce_var 1) ce_int)))) css_nil) (css_cons (cs_if (ct_cmp (od_eq st.toStd.hr) (ce_ix st.toStd.hr (ce_var 0) ce_int) (ce_str)) (css_one (cs_ret (ce_B (cb_all st.toStd.hc) rfl (hf_all h) bt_all (ca_cons (ce_var 1) ca_nil)))) css_nil) (css_one (cs_ret (ce_if (ct_cmp (od_eq st.toStd.hr) (ce_ix st.toStd.hr (ce_var 0) ce_int) (ce_str)) (ce_B (cb_any st.toStd.hc) rfl (hf_any h) bt_any (ca_cons (ce_var 1) ca_nil)) (ce_cmp (od_eq st.toStd.hr) (ce_ix st.toStd.hr (ce_var 0) ce_int) (ce_str)))))))))).A
theorem sc_is_in_by : FnScope ["term", "there", "done", "where", "part", "many", "truths"] ["term", "there"] (defScope (top 19)) := ⟨rfl, rfl, rfl, by decide +kernel, rfl, by decide +kernel, by decide +kernel⟩
theorem fs_is_in_by (h : HF K mg) : Fs P w K mg base 3 "is_in_by" ["term", "there"] f_is_in_by := by
  obtain ⟨fd, F⟩ := h.d.def_ 23 (d := dd_is_in_by) rfl
  exact (fs_mk (k := 2) F (hg_is_in_by h) (F.bindsN fun _ _ _ _ _ _ us hl => match us, hl with | [_, _], _ => rfl) sc_is_in_by fun cdv A outer s H E st => (show CSs _ (defBody (top 19)) m_is_in_by from (css_cons (cs_set 2 st.toStd.hN (ce_lst ca_nil)) (css_cons (cs_for st.hp st.toStd.hc (ci_any (ce_rev (ce_fn (x := "parts_of") (fs_parts_of h) st.toStd (by first | decide | omega) (by rfl) (ca_cons (ce_var 0) ca_nil)))) (cg_tup st.toStd.hc (cgs_cons (cg_name 3 st.toStd.hN) (cgs_cons (cg_name 4 st.toStd.hN) cgs_nil))) (css_cons (cs_set 5 st.toStd.hN (ce_B cb_len rfl (hf_len h) bt_len (ca_cons (ce_fn (x := "inner") (fs_inner h) st.toStd (by first | decide | omega) (by rfl) (ca_cons (ce_var 4) ca_nil)) ca_nil))) (css_cons (cs_set 6 st.toStd.hN (ce_slice (ce_var 2) (co_some (ce_bin od_sub (ce_B cb_len rfl (hf_len h) bt_len (ca_cons (ce_var 2) ca_nil)) (ce_var 5))) co_none)) (css_one (cs_set 2 st.toStd.hN (ce_bin od_add (ce_slice (ce_var 2) co_none (co_some (ce_bin od_sub (ce_B cb_len rfl (hf_len h) bt_len (ca_cons (ce_var 2) ca_nil)) (ce_var 5)))) (ce_lst (ca_cons (ce_fn (x := "truth_of") (fs_truth_of h) st.toStd (by first | decide | omega) (by rfl) (ca_cons (ce_var 4) (ca_cons (ce_var 6) (ca_cons (ce_var 1) ca_nil)))) ca_nil)))))))) (css_one (cs_ret (ce_ix st.toStd.hr (ce_var 2) ce_int))))))).A
theorem sc_names_in : FnScope ["term", "where", "part"] ["term"] (defScope (top 17)) := ⟨rfl, rfl, rfl, by decide +kernel, rfl, by decide +kernel, by decide +kernel⟩
theorem fs_names_in (h : HF K mg) : Fs P w K mg base 3 "names_in" ["term"] f_names_in := by
  obtain ⟨fd, F⟩ := h.d.def_ 24 (d := dd_names_in) rfl
  exact (fs_mk (k := 2) F (hg_names_in h) (F.bindsN fun _ _ _ _ _ _ us hl => match us, hl with | [_], _ => rfl) sc_names_in fun cdv A outer s H E st => (show CSs _ (defBody (top 17)) m_names_in from (css_one (cs_ret (ce_Ty cb_tuple rfl (hf_tuple h) bt_tuple (ca_cons (ce_B (cb_sortDS st.toStd.hc) rfl (hf_sorted h) bt_sorted (ca_cons (ce_dc [("where", 1), ("part", 2)] st.toStd.hc st.toStd.hN (ci_any (ce_fn (x := "parts_of") (fs_parts_of h) st.toStd (by first | decide | omega) (by rfl) (ca_cons (ce_var 0) ca_nil))) (blkOk_by rfl) (by decide) (fun _ _ _ _ _ => (cg_tup (st.toStd).blk.hc (cgs_cons (cg_name 1 (st.toStd).blk.hN) (cgs_cons (cg_name 2 (st.toStd).blk.hN) cgs_nil)))) (fun _ _ _ _ _ => (cts_one (ct_cmp (od_eq (st.toStd).blk.hr) (ce_ix (st.toStd).blk.hr (ce_var 2) ce_int) (ce_str)))) (fun _ _ _ _ _ => (ce_ix (st.toStd).blk.hr (ce_var 2) ce_int)) (fun _ _ _ _ _ => ce_bl)) ca_nil)) ca_nil)))))).A
theorem sc_memberships : FnScope ["its", "found", "name", "cells", "cell", "_cell", "names"] ["its"] (defScope (top 12)) := ⟨rfl, rfl, rfl, by decide +kernel, rfl, by decide +kernel, by decide +kernel⟩
theorem fs_memberships (h : HF K mg) : Fs P w K mg base 1 "memberships" ["its"] f_memberships := by
  obtain ⟨fd, F⟩ := h.d.def_ 25 (d := dd_memberships) rfl
  exact (fs_mk (k := 0) F (hg_memberships h) (F.bindsN fun _ _ _ _ _ _ us hl => match us, hl with | [_], _ => rfl) sc_memberships fun cdv A outer s H E st => (show CSs _ (defBody (top 12)) m_memberships from (css_cons (cs_setLc 1 [("_cell", 5)] st.toStd.hc st.toStd.hN (ci_range1 rfl (hf_range h) (ca_cons (ce_ix st.toStd.hr (ce_var 0) ce_int) ca_nil)) (blkOk_by rfl) (by decide) (fun _ _ _ _ _ => (cg_name 5 (st.toStd).blk.hN)) (fun _ _ _ _ _ => cts_nil) (fun _ _ _ _ _ => (ce_lstR ca_nil))) (css_cons (cs_for st.hp st.toStd.hc (ci_any (ce_ix st.toStd.hr (ce_var 0) ce_int)) (cg_tup st.toStd.hc (cgs_cons (cg_name 2 st.toStd.hN) (cgs_cons (cg_name 3 st.toStd.hN) cgs_nil))) (css_one (cs_for st.hp st.toStd.hc (ci_any (ce_var 3)) (cg_name 4 st.toStd.hN) (css_one (cs_expr (ce_m PySem.F.plainAttrs_list PySem.F.slot_list_append PySem.F.type_list_append tyL_of mb_append (ce_ix st.toStd.hr (ce_var 1) (ce_var 4)) (ca_cons (ce_var 2) ca_nil))))))) (css_one (cs_ret (ce_Ty cb_tuple rfl (hf_tuple h) bt_tuple (ca_cons (ce_lc [("names", 6)] st.toStd.hc st.toStd.hN (ci_any (ce_var 1)) (blkOk_by rfl) (by decide) (fun _ _ _ _ _ => (cg_name 6 (st.toStd).blk.hN)) (fun _ _ _ _ _ => cts_nil) (fun _ _ _ _ _ => (ce_Ty cb_tuple rfl (hf_tuple h) bt_tuple (ca_cons (ce_var 6) ca_nil)))) ca_nil)))))))).A
theorem sc_cells_of : FnScope ["its", "term", "there", "name", "cell", "names"] ["its", "term"] (defScope (top 20)) := ⟨rfl, rfl, rfl, by decide +kernel, rfl, by decide +kernel, by decide +kernel⟩
theorem fs_cells_of (h : HF K mg) : Fs P w K mg base 4 "cells_of" ["its", "term"] f_cells_of := by
  obtain ⟨fd, F⟩ := h.d.def_ 26 (d := dd_cells_of) rfl
  exact (fs_mk (k := 3) F (hg_cells_of h) (F.bindsN fun _ _ _ _ _ _ us hl => match us, hl with | [_, _], _ => rfl) sc_cells_of fun cdv A outer s H E st => (show CSs _ (defBody (top 20)) m_cells_of from (css_cons (cs_set 2 st.toStd.hN (ce_fn (x := "names_of") (fs_names_of h) st.toStd (by first | decide | omega) (by rfl) (ca_cons (ce_var 0) ca_nil))) (css_cons (cs_if (ct_not (ct_val (ce_B (cb_all st.toStd.hc) rfl (hf_all h) bt_all (ca_cons (ce_lc [("name", 3)] st.toStd.hc st.toStd.hN (ci_any (ce_fn (x := "names_in") (fs_names_in h) st.toStd (by first | decide | omega) (by rfl) (ca_cons (ce_var 1) ca_nil))) (blkOk_by rfl) (by decide) (fun _ _ _ _ _ => (cg_name 3 (st.toStd).blk.hN)) (fun _ _ _ _ _ => cts_nil) (fun _ _ _ _ _ => (ce_cmp (od_in (st.toStd).blk.hr) (ce_var 3) (ce_var 2)))) ca_nil)))) (css_one cs_bad) css_nil) (css_one (cs_ret (ce_Ty cb_tuple rfl (hf_tuple h) bt_tuple (ca_cons (ce_lc [("cell", 4), ("names", 5)] st.toStd.hc st.toStd.hN (ci_enum rfl (hf_enumerate h) (ca_cons (ce_fn (x := "memberships") (fs_memberships h) st.toStd (by first | decide | omega) (by rfl) (ca_cons (ce_var 0) ca_nil)) ca_nil)) (blkOk_by rfl) (by decide) (fun _ _ _ _ _ => (cg_tup (st.toStd).blk.hc (cgs_cons (cg_name 4 (st.toStd).blk.hN) (cgs_cons (cg_name 5 (st.toStd).blk.hN) cgs_nil)))) (fun _ _ _ _ _ => (cts_one (ct_val (ce_fn (x := "is_in_by") (fs_is_in_by h) (st.toStd).blk (by first | decide | omega) (by rfl) (ca_cons (ce_var 1) (ca_cons (ce_var 5) ca_nil)))))) (fun _ _ _ _ _ => (ce_var 4))) ca_nil)))))))).A
theorem sc_is_integer : FnScope ["thing"] ["thing"] (defScope (top 2)) := ⟨rfl, rfl, rfl, by decide +kernel, rfl, by decide +kernel, by decide +kernel⟩
theorem fs_is_integer (h : HF K mg) : Fs P w K mg base 1 "is_integer" ["thing"] f_is_integer := by
  obtain ⟨fd, F⟩ := h.d.def_ 27 (d := dd_is_integer) rfl
  exact (fs_mk (k := 0) F (hg_is_integer h) (F.bindsN fun _ _ _ _ _ _ us hl => match us, hl with | [_], _ => rfl) sc_is_integer fun cdv A outer s H E st => (show CSs _ (defBody (top 2)) m_is_integer from (css_one (cs_ret (ce_and (ce_isi .int rfl (hf_isinstance h) (ce_var 0) rfl (hf_int h)) (ce_one (ce_not (ce_isi .bool rfl (hf_isinstance h) (ce_var 0) rfl (hf_bool h))))))))).A
theorem sc_is_count : FnScope ["thing"] ["thing"] (defScope (top 3)) := ⟨rfl, rfl, rfl, by decide +kernel, rfl, by decide +kernel, by decide +kernel⟩
theorem fs_is_count (h : HF K mg) : Fs P w K mg base 2 "is_count" ["thing"] f_is_count := by
  obtain ⟨fd, F⟩ := h.d.def_ 28 (d := dd_is_count) rfl
  exact (fs_mk (k := 1) F (hg_is_count h) (F.bindsN fun _ _ _ _ _ _ us hl => match us, hl with | [_], _ => rfl) sc_is_count fun cdv A outer s H E st => (show CSs _ (defBody (top 3)) m_is_count from (css_one (cs_ret (ce_and (ce_fn (x := "is_integer") (fs_is_integer h) st.toStd (by first | decide | omega) (by rfl) (ca_cons (ce_var 0) ca_nil)) (ce_one (ce_cmp (od_cmp st.toStd.hr (.inr (.inr (.inr rfl)))) (ce_var 0) ce_int))))))).A
theorem sc_is_counts : FnScope ["thing", "one"] ["thing"] (defScope (top 9)) := ⟨rfl, rfl, rfl, by decide +kernel, rfl, by decide +kernel, by decide +kernel⟩
theorem fs_is_counts (h : HF K mg) : Fs P w K mg base 3 "is_counts" ["thing"] f_is_counts := by
  obtain ⟨fd, F⟩ := h.d.def_ 29 (d := dd_is_counts) rfl
  exact (fs_mk (k := 2) F (hg_is_counts h) (F.bindsN fun _ _ _ _ _ _ us hl => match us, hl with | [_], _ => rfl) sc_is_counts fun cdv A outer s H E st => (show CSs _ (defBody (top 9)) m_is_counts from (css_one (cs_ret (ce_and (ce_isi .tuple rfl (hf_isinstance h) (ce_var 0) rfl (hf_tuple h)) (ce_one (ce_B (cb_all st.toStd.hc) rfl (hf_all h) bt_all (ca_cons (ce_lc [("one", 1)] st.toStd.hc st.toStd.hN (ci_any (ce_var 0)) (blkOk_by rfl) (by decide) (fun _ _ _ _ _ => (cg_name 1 (st.toStd).blk.hN)) (fun _ _ _ _ _ => cts_nil) (fun _ _ _ _ _ => (ce_fn (x := "is_count") (fs_is_count h) (st.toStd).blk (by first | decide | omega) (by rfl) (ca_cons (ce_var 1) ca_nil)))) ca_nil)))))))).A
theorem sc_check_cells : FnScope ["its", "cells", "cell"] ["its", "cells"] (defScope (top 11)) := ⟨rfl, rfl, rfl, by decide +kernel, rfl, by decide +kernel, by decide +kernel⟩
theorem fs_check_cells (h : HF K mg) : Fs P w K mg base 4 "check_cells" ["its", "cells"] f_check_cells := by
  obtain ⟨fd, F⟩ := h.d.def_ 30 (d := dd_check_cells) rfl
  exact (fs_mk (k := 3) F (hg_check_cells h) (F.bindsN fun _ _ _ _ _ _ us hl => match us, hl with | [_, _], _ => rfl) sc_check_cells fun cdv A outer s H E st => (show CSs _ (defBody (top 11)) m_check_cells from (css_one (cs_if (ct_w (cw_or (ct_not (ct_val (ce_fn (x := "is_counts") (fs_is_counts h) st.toStd (by first | decide | omega) (by rfl) (ca_cons (ce_var 1) ca_nil)))) (cw_or1 (ct_not (ct_val (ce_B (cb_all st.toStd.hc) rfl (hf_all h) bt_all (ca_cons (ce_lc [("cell", 2)] st.toStd.hc st.toStd.hN (ci_any (ce_var 1)) (blkOk_by rfl) (by decide) (fun _ _ _ _ _ => (cg_name 2 (st.toStd).blk.hN)) (fun _ _ _ _ _ => cts_nil) (fun _ _ _ _ _ => (ce_cmp (od_cmp (st.toStd).blk.hr (.inl rfl)) (ce_var 2) (ce_ix (st.toStd).blk.hr (ce_var 0) ce_int)))) ca_nil))))))) (css_one cs_bad) css_nil)))).A
theorem sc_seams_between : FnScope ["its", "ones", "others", "found", "mine", "theirs", "one", "other", "cell"] ["its", "ones", "others"] (defScope (top 13)) := ⟨rfl, rfl, rfl, by decide +kernel, rfl, by decide +kernel, by decide +kernel⟩
theorem fs_seams_between (h : HF K mg) : Fs P w K mg base 5 "seams_between" ["its", "ones", "others"] f_seams_between := by
  obtain ⟨fd, F⟩ := h.d.def_ 31 (d := dd_seams_between) rfl
  exact (fs_mk (k := 4) F (hg_seams_between h) (F.bindsN fun _ _ _ _ _ _ us hl => match us, hl with | [_, _, _], _ => rfl) sc_seams_between fun cdv A outer s H E st => (show CSs _ (defBody (top 13)) m_seams_between from (css_cons (cs_expr (ce_fn (x := "check_cells") (fs_check_cells h) st.toStd (by first | decide | omega) (by rfl) (ca_cons (ce_var 0) (ca_cons (ce_var 1) ca_nil)))) (css_cons (cs_expr (ce_fn (x := "check_cells") (fs_check_cells h) st.toStd (by first | decide | omega) (by rfl) (ca_cons (ce_var 0) (ca_cons (ce_var 2) ca_nil)))) (css_cons (cs_par 4 5 st.toStd.hc st.toStd.hN (ca_cons (ce_dc [("cell", 8)] st.toStd.hc st.toStd.hN (ci_any (ce_var 1)) (blkOk_by rfl) (by decide) (fun _ _ _ _ _ => (cg_name 8 (st.toStd).blk.hN)) (fun _ _ _ _ _ => cts_nil) (fun _ _ _ _ _ => (ce_var 8)) (fun _ _ _ _ _ => ce_bl)) (ca_cons (ce_dc [("cell", 8)] st.toStd.hc st.toStd.hN (ci_any (ce_var 2)) (blkOk_by rfl) (by decide) (fun _ _ _ _ _ => (cg_name 8 (st.toStd).blk.hN)) (fun _ _ _ _ _ => cts_nil) (fun _ _ _ _ _ => (ce_var 8)) (fun _ _ _ _ _ => ce_bl)) ca_nil))) (css_cons (cs_set 3 st.toStd.hN (ce_lstR ca_nil)) (css_cons (cs_for st.hp st.toStd.hc (ci_any (ce_ix st.toStd.hr (ce_var 0) ce_int)) (cg_tup st.toStd.hc (cgs_cons (cg_name 6 st.toStd.hN) (cgs_cons (cg_name 7 st.toStd.hN) cgs_nil))) (css_one (cs_if (ct_w (cw_or (ct_w (cw_and (ct_cmp (od_in st.toStd.hr) (ce_var 6) (ce_var 4)) (cw_and1 (ct_cmp (od_in st.toStd.hr) (ce_var 7) (ce_var 5))))) (cw_or1 (ct_w (cw_and (ct_cmp (od_in st.toStd.hr) (ce_var 7) (ce_var 4)) (cw_and1 (ct_cmp (od_in st.toStd.hr) (ce_var 6) (ce_var 5)))))))) (css_one (cs_expr (ce_m PySem.F.plainAttrs_list PySem.F.slot_list_append PySem.F.type_list_append tyL_of mb_append (ce_var 3) (ca_cons (ce_tup (ca_cons (ce_var 6) (ca_cons (ce_var 7) ca_nil))) ca_nil)))) css_nil))) (css_one (cs_ret (ce_Ty cb_tuple rfl (hf_tuple h) bt_tuple (ca_cons (ce_var 3) ca_nil))))))))))).A
theorem sc_shown_by : FnScope ["its", "wish", "cells", "found", "term"] ["its", "wish"] (defScope (top 23)) := ⟨rfl, rfl, rfl, by decide +kernel, rfl, by decide +kernel, by decide +kernel⟩
theorem fs_shown_by (h : HF K mg) : Fs P w K mg base 6 "shown_by" ["its", "wish"] f_shown_by := by
  obtain ⟨fd, F⟩ := h.d.def_ 32 (d := dd_shown_by) rfl
  exact (fs_mk (k := 5) F (hg_shown_by h) (F.bindsN fun _ _ _ _ _ _ us hl => match us, hl with | [_, _], _ => rfl) sc_shown_by fun cdv A outer s H E st => (show CSs _ (defBody (top 23)) m_shown_by from (css_cons (cs_setLc 2 [("term", 4)] st.toStd.hc st.toStd.hN (ci_any (ce_slice (ce_var 1) (co_some ce_int) co_none)) (blkOk_by rfl) (by decide) (fun _ _ _ _ _ => (cg_name 4 (st.toStd).blk.hN)) (fun _ _ _ _ _ => cts_nil) (fun _ _ _ _ _ => (ce_fn (x := "cells_of") (fs_cells_of h) (st.toStd).blk (by first | decide | omega) (by rfl) (ca_cons (ce_var 0) (ca_cons (ce_var 4) ca_nil))))) (css_cons (cs_set 3 st.toStd.hN (ce_if (ct_cmp (od_eq st.toStd.hr) (ce_B cb_len rfl (hf_len h) bt_len (ca_cons (ce_var 2) ca_nil)) ce_int) (ce_ix st.toStd.hr (ce_var 2) ce_int) (ce_fn (x := "seams_between") (fs_seams_between h) st.toStd (by first | decide | omega) (by rfl) (ca_cons (ce_var 0) (ca_cons (ce_ix st.toStd.hr (ce_var 2) ce_int) (ca_cons (ce_ix st.toStd.hr (ce_var 2) ce_int) ca_nil)))))) (css_one (cs_ret (ce_if (ct_cmp (od_ne st.toStd.hr) (ce_var 3) (ce_tup ca_nil)) (ce_ix st.toStd.hr (ce_var 3) ce_int) ce_non))))))).A
theorem sc_keeps : FnScope ["its", "wish"] ["its", "wish"] (defScope (top 24)) := ⟨rfl, rfl, rfl, by decide +kernel, rfl, by decide +kernel, by decide +kernel⟩
theorem fs_keeps (h : HF K mg) : Fs P w K mg base 7 "keeps" ["its", "wish"] f_keeps := by
  obtain ⟨fd, F⟩ := h.d.def_ 33 (d := dd_keeps) rfl
  exact (fs_mk (k := 6) F (hg_keeps h) (F.bindsN fun _ _ _ _ _ _ us hl => match us, hl with | [_, _], _ => rfl) sc_keeps fun cdv A outer s H E st => (show CSs _ (defBody (top 24)) m_keeps from (css_one (cs_ret (ce_cmp (od_ne st.toStd.hr) (ce_cmp od_is (ce_fn (x := "shown_by") (fs_shown_by h) st.toStd (by first | decide | omega) (by rfl) (ca_cons (ce_var 0) (ca_cons (ce_var 1) ca_nil))) ce_non) (ce_fn (x := "asks") (fs_asks h) st.toStd (by first | decide | omega) (by rfl) (ca_cons (ce_var 1) ca_nil))))))).A
theorem sc_all_broken : FnScope ["its", "wishes", "index", "wish"] ["its", "wishes"] (defScope (top 25)) := ⟨rfl, rfl, rfl, by decide +kernel, rfl, by decide +kernel, by decide +kernel⟩
theorem fs_all_broken (h : HF K mg) : Fs P w K mg base 8 "all_broken" ["its", "wishes"] f_all_broken := by
  obtain ⟨fd, F⟩ := h.d.def_ 34 (d := dd_all_broken) rfl
  exact (fs_mk (k := 7) F (hg_all_broken h) (F.bindsN fun _ _ _ _ _ _ us hl => match us, hl with | [_, _], _ => rfl) sc_all_broken fun cdv A outer s H E st => (show CSs _ (defBody (top 25)) m_all_broken from (css_one (cs_ret (ce_Ty cb_tuple rfl (hf_tuple h) bt_tuple (ca_cons (ce_lc [("index", 2), ("wish", 3)] st.toStd.hc st.toStd.hN (ci_enum rfl (hf_enumerate h) (ca_cons (ce_var 1) ca_nil)) (blkOk_by rfl) (by decide) (fun _ _ _ _ _ => (cg_tup (st.toStd).blk.hc (cgs_cons (cg_name 2 (st.toStd).blk.hN) (cgs_cons (cg_name 3 (st.toStd).blk.hN) cgs_nil)))) (fun _ _ _ _ _ => (cts_one (ct_not (ct_val (ce_fn (x := "keeps") (fs_keeps h) (st.toStd).blk (by first | decide | omega) (by rfl) (ca_cons (ce_var 0) (ca_cons (ce_var 3) ca_nil))))))) (fun _ _ _ _ _ => (ce_var 2))) ca_nil)))))).A
theorem sc_is_couple : FnScope ["thing"] ["thing"] (defScope (top 8)) := ⟨rfl, rfl, rfl, by decide +kernel, rfl, by decide +kernel, by decide +kernel⟩
theorem fs_is_couple (h : HF K mg) : Fs P w K mg base 3 "is_couple" ["thing"] f_is_couple := by
  obtain ⟨fd, F⟩ := h.d.def_ 35 (d := dd_is_couple) rfl
  exact (fs_mk (k := 2) F (hg_is_couple h) (F.bindsN fun _ _ _ _ _ _ us hl => match us, hl with | [_], _ => rfl) sc_is_couple fun cdv A outer s H E st => (show CSs _ (defBody (top 8)) m_is_couple from (css_one (cs_ret (ce_and (ce_isi .tuple rfl (hf_isinstance h) (ce_var 0) rfl (hf_tuple h)) (ce_and (ce_cmp (od_eq st.toStd.hr) (ce_B cb_len rfl (hf_len h) bt_len (ca_cons (ce_var 0) ca_nil)) ce_int) (ce_and (ce_fn (x := "is_count") (fs_is_count h) st.toStd (by first | decide | omega) (by rfl) (ca_cons (ce_ix st.toStd.hr (ce_var 0) ce_int) ca_nil)) (ce_one (ce_fn (x := "is_count") (fs_is_count h) st.toStd (by first | decide | omega) (by rfl) (ca_cons (ce_ix st.toStd.hr (ce_var 0) ce_int) ca_nil)))))))))).A
theorem sc_is_shown : FnScope ["its", "wish", "thing", "cells", "term"] ["its", "wish", "thing"] (defScope (top 28)) := ⟨rfl, rfl, rfl, by decide +kernel, rfl, by decide +kernel, by decide +kernel⟩
theorem fs_is_shown (h : HF K mg) : Fs P w K mg base 6 "is_shown" ["its", "wish", "thing"] f_is_shown := by
  obtain ⟨fd, F⟩ := h.d.def_ 36 (d := dd_is_shown) rfl
  exact (fs_mk (k := 5) F (hg_is_shown h) (F.bindsN fun _ _ _ _ _ _ us hl => match us, hl with | [_, _, _], _ => rfl) sc_is_shown fun cdv A outer s H E st => (show CSs _ (defBody (top 28)) m_is_shown from (css_cons (cs_setLc 3 [("term", 4)] st.toStd.hc st.toStd.hN (ci_any (ce_slice (ce_var 1) (co_some ce_int) co_none)) (blkOk_by rfl) (by decide) (fun _ _ _ _ _ => (cg_name 4 (st.toStd).blk.hN)) (fun _ _ _ _ _ => cts_nil) (fun _ _ _ _ _ => (ce_fn (x := "cells_of") (fs_cells_of h) (st.toStd).blk (by first | decide | omega) (by rfl) (ca_cons (ce_var 0) (ca_cons (ce_var 4) ca_nil))))) (css_cons (cs_if (ct_cmp (od_eq st.toStd.hr) (ce_B cb_len rfl (hf_len h) bt_len (ca_cons (ce_var 3) ca_nil)) ce_int) (css_one (cs_ret (ce_and (ce_fn (x := "is_count") (fs_is_count h) st.toStd (by first | decide | omega) (by rfl) (ca_cons (ce_var 2) ca_nil)) (ce_one (ce_cmp (od_in st.toStd.hr) (ce_var 2) (ce_ix st.toStd.hr (ce_var 3) ce_int)))))) css_nil) (css_one (cs_ret (ce_and (ce_fn (x := "is_couple") (fs_is_couple h) st.toStd (by first | decide | omega) (by rfl) (ca_cons (ce_var 2) ca_nil)) (ce_one (ce_cmp (od_in st.toStd.hr) (ce_var 2) (ce_fn (x := "seams_between") (fs_seams_between h) st.toStd (by first | decide | omega) (by rfl) (ca_cons (ce_var 0) (ca_cons (ce_ix st.toStd.hr (ce_var 3) ce_int) (ca_cons (ce_ix st.toStd.hr (ce_var 3) ce_int) ca_nil))))))))))))).A
theorem sc_is_row : FnScope ["its", "wish", "thing"] ["its", "wish", "thing"] (defScope (top 29)) := ⟨rfl, rfl, rfl, by decide +kernel, rfl, by decide +kernel, by decide +kernel⟩
theorem fs_is_row (h : HF K mg) : Fs P w K mg base 8 "is_row" ["its", "wish", "thing"] f_is_row := by
  obtain ⟨fd, F⟩ := h.d.def_ 37 (d := dd_is_row) rfl
  exact (fs_mk (k := 7) F (hg_is_row h) (F.bindsN fun _ _ _ _ _ _ us hl => match us, hl with | [_, _, _], _ => rfl) sc_is_row fun cdv A outer s H E st => (show CSs _ (defBody (top 29)) m_is_row from (css_cons (cs_if (ct_val (ce_fn (x := "asks") (fs_asks h) st.toStd (by first | decide | omega) (by rfl) (ca_cons (ce_var 1) ca_nil))) (css_one (cs_ret (ce_fn (x := "is_shown") (fs_is_shown h) st.toStd (by first | decide | omega) (by rfl) (ca_cons (ce_var 0) (ca_cons (ce_var 1) (ca_cons (ce_var 2) ca_nil)))))) css_nil) (css_one (cs_ret (ce_and (ce_cmp od_is (ce_var 2) ce_non) (ce_one (ce_fn (x := "keeps") (fs_keeps h) st.toStd (by first | decide | omega) (by rfl) (ca_cons (ce_var 0) (ca_cons (ce_var 1) ca_nil)))))))))).A
theorem sc_is_kept_paper : FnScope ["its", "wishes", "thing", "broken", "wish", "row"] ["its", "wishes", "thing"] (defScope (top 30)) := ⟨rfl, rfl, rfl, by decide +kernel, rfl, by decide +kernel, by decide +kernel⟩
theorem fs_is_kept_paper (h : HF K mg) : Fs P w K mg base 9 "is_kept_paper" ["its", "wishes", "thing"] f_is_kept_paper := by
  obtain ⟨fd, F⟩ := h.d.def_ 38 (d := dd_is_kept_paper) rfl
  exact (fs_mk (k := 8) F (hg_is_kept_paper h) (F.bindsN fun _ _ _ _ _ _ us hl => match us, hl with | [_, _, _], _ => rfl) sc_is_kept_paper fun cdv A outer s H E st => (show CSs _ (defBody (top 30)) m_is_kept_paper from (css_cons (cs_set 3 st.toStd.hN (ce_fn (x := "all_broken") (fs_all_broken h) st.toStd (by first | decide | omega) (by rfl) (ca_cons (ce_var 0) (ca_cons (ce_var 1) ca_nil)))) (css_cons (cs_if (ct_w (cw_or (ct_not (ct_val (ce_isi .tuple rfl (hf_isinstance h) (ce_var 2) rfl (hf_tuple h)))) (cw_or (ct_cmp (od_eq st.toStd.hr) (ce_var 2) (ce_tup ca_nil)) (cw_or1 (ct_not (ct_val (ce_isi .str rfl (hf_isinstance h) (ce_ix st.toStd.hr (ce_var 2) ce_int) rfl (hf_str h)))))))) (css_one (cs_ret ce_bl)) css_nil) (css_cons (cs_if (ct_w (cw_and (ct_cmp (od_eq st.toStd.hr) (ce_ix st.toStd.hr (ce_var 2) ce_int) (ce_str)) (cw_and1 (ct_cmp (od_eq st.toStd.hr) (ce_B cb_len rfl (hf_len h) bt_len (ca_cons (ce_var 2) ca_nil)) ce_int)))) (css_cons (cs_if (ct_w (cw_or (ct_not (ct_val (ce_isi .tuple rfl (hf_isinstance h) (ce_ix st.toStd.hr (ce_var 2) ce_int) rfl (hf_tuple h)))) (cw_or1 (ct_cmp (od_ne st.toStd.hr) (ce_B cb_len rfl (hf_len h) bt_len (ca_cons (ce_ix st.toStd.hr (ce_var 2) ce_int) ca_nil)) (ce_B cb_len rfl (hf_len h) bt_len (ca_cons (ce_var 1) ca_nil)))))) (css_one (cs_ret ce_bl)) css_nil) (css_one (cs_ret (ce_B (cb_all st.toStd.hc) rfl (hf_all h) bt_all (ca_cons (ce_lc [("wish", 4), ("row", 5)] st.toStd.hc st.toStd.hN (ci_zip rfl (hf_zip h) (ca_cons (ce_var 1) (ca_cons (ce_ix st.toStd.hr (ce_var 2) ce_int) ca_nil))) (blkOk_by rfl) (by decide) (fun _ _ _ _ _ => (cg_tup (st.toStd).blk.hc (cgs_cons (cg_name 4 (st.toStd).blk.hN) (cgs_cons (cg_name 5 (st.toStd).blk.hN) cgs_nil)))) (fun _ _ _ _ _ => cts_nil) (fun _ _ _ _ _ => (ce_fn (x := "is_row") (fs_is_row h) (st.toStd).blk (by first | decide | omega) (by rfl) (ca_cons (ce_var 0) (ca_cons (ce_var 4) (ca_cons (ce_var 5) ca_nil)))))) ca_nil))))) css_nil) (css_cons (cs_if (ct_w (cw_or (ct_cmp (od_ne st.toStd.hr) (ce_ix st.toStd.hr (ce_var 2) ce_int) (ce_str)) (cw_or (ct_cmp (od_ne st.toStd.hr) (ce_B cb_len rfl (hf_len h) bt_len (ca_cons (ce_var 2) ca_nil)) ce_int) (cw_or (ct_not (ct_val (ce_fn (x := "is_count") (fs_is_count h) st.toStd (by first | decide | omega) (by rfl) (ca_cons (ce_ix st.toStd.hr (ce_var 2) ce_int) ca_nil)))) (cw_or1 (ct_cmp (od_notIn st.toStd.hr) (ce_ix st.toStd.hr (ce_var 2) ce_int) (ce_var 3))))))) (css_one (cs_ret ce_bl)) css_nil) (css_cons (cs_set 4 st.toStd.hN (ce_ix st.toStd.hr (ce_var 1) (ce_ix st.toStd.hr (ce_var 2) ce_int))) (css_one (cs_ret (ce_if (ct_val (ce_fn (x := "asks") (fs_asks h) st.toStd (by first | decide | omega) (by rfl) (ca_cons (ce_var 4) ca_nil))) (ce_cmp od_is (ce_ix st.toStd.hr (ce_var 2) ce_int) ce_non) (ce_fn (x := "is_shown") (fs_is_shown h) st.toStd (by first | decide | omega) (by rfl) (ca_cons (ce_var 0) (ca_cons (ce_var 4) (ca_cons (ce_ix st.toStd.hr (ce_var 2) ce_int) ca_nil)))))))))))))).A
theorem sc_law_contrary : FnScope ["wish"] ["wish"] (defScope (top 48)) := ⟨rfl, rfl, rfl, by decide +kernel, rfl, by decide +kernel, by decide +kernel⟩
theorem fs_law_contrary (h : HF K mg) : Fs P w K mg base 1 "_law_contrary" ["wish"] f_law_contrary := by
  obtain ⟨fd, F⟩ := h.d.def_ 39 (d := dd_law_contrary) rfl
  exact (fs_mk (k := 0) F (hg_law_contrary h) (F.bindsN fun _ _ _ _ _ _ us hl => match us, hl with | [_], _ => rfl) sc_law_contrary fun cdv A outer s H E st => (show CSs _ (defBody (top 48)) m_law_contrary from (css_one (cs_ret (ce_bin od_add (ce_tup (ca_cons (ce_ix st.toStd.hr (ce_disp (cps_cons (ce_str) (ce_str) (cps_cons (ce_str) (ce_str) (cps_cons (ce_str) (ce_str) (cps_cons (ce_str) (ce_str) cps_nil))))) (ce_ix st.toStd.hr (ce_var 0) ce_int)) ca_nil)) (ce_slice (ce_var 0) (co_some ce_int) co_none)))))).A
theorem sc_kept_paper : FnScope ["its", "wishes", "broken", "wish"] ["its", "wishes"] (defScope (top 27)) := ⟨rfl, rfl, rfl, by decide +kernel, rfl, by decide +kernel, by decide +kernel⟩
theorem fs_kept_paper (h : HF K mg) : Fs P w K mg base 9 "kept_paper" ["its", "wishes"] f_kept_paper := by
  obtain ⟨fd, F⟩ := h.d.def_ 40 (d := dd_kept_paper) rfl
  exact (fs_mk (k := 8) F (hg_kept_paper h) (F.bindsN fun _ _ _ _ _ _ us hl => match us, hl with | [_, _], _ => rfl) sc_kept_paper fun cdv A outer s H E st => (show CSs _ (defBody (top 27)) m_kept_paper from (css_cons (cs_set 2 st.toStd.hN (ce_fn (x := "all_broken") (fs_all_broken h) st.toStd (by first | decide | omega) (by rfl) (ca_cons (ce_var 0) (ca_cons (ce_var 1) ca_nil)))) (css_cons (cs_if (ct_cmp (od_ne st.toStd.hr) (ce_var 2) (ce_tup ca_nil)) (css_cons (cs_set 3 st.toStd.hN (ce_ix st.toStd.hr (ce_var 1) (ce_ix st.toStd.hr (ce_var 2) ce_int))) (css_one (cs_ret (ce_tup (ca_cons (ce_str) (ca_cons (ce_ix st.toStd.hr (ce_var 2) ce_int) (ca_cons (ce_if (ct_val (ce_fn (x := "asks") (fs_asks h) st.toStd (by first | decide | omega) (by rfl) (ca_cons (ce_var 3) ca_nil))) ce_non (ce_fn (x := "shown_by") (fs_shown_by h) st.toStd (by first | decide | omega) (by rfl) (ca_cons (ce_var 0) (ca_cons (ce_var 3) ca_nil)))) ca_nil))))))) css_nil) (css_one (cs_ret (ce_tup (ca_cons (ce_str) (ca_cons (ce_Ty cb_tuple rfl (hf_tuple h) bt_tuple (ca_cons (ce_lc [("wish", 3)] st.toStd.hc st.toStd.hN (ci_any (ce_var 1)) (blkOk_by rfl) (by decide) (fun _ _ _ _ _ => (cg_name 3 (st.toStd).blk.hN)) (fun _ _ _ _ _ => cts_nil) (fun _ _ _ _ _ => (ce_if (ct_val (ce_fn (x := "asks") (fs_asks h) (st.toStd).blk (by first | decide | omega) (by rfl) (ca_cons (ce_var 3) ca_nil))) (ce_fn (x := "shown_by") (fs_shown_by h) (st.toStd).blk (by first | decide | omega) (by rfl) (ca_cons (ce_var 0) (ca_cons (ce_var 3) ca_nil))) ce_non))) ca_nil)) ca_nil))))))))).A
theorem sc_law : FnScope ["script", "bag", "names", "lap", "its", "drawn", "wishes", "broken", "rows", "due", "k", "things", "odd", "thing", "fit", "wish"] ["script"] (defScope (top 51)) := ⟨rfl, rfl, rfl, by decide +kernel, rfl, by decide +kernel, by decide +kernel⟩
theorem fs_law (h : HF K mg) : Fs P w K mg base 13 "law" ["script"] f_law := by
  obtain ⟨fd, F⟩ := h.d.def_ 41 (d := dd_law) rfl
  exact (fs_mk (k := 12) F (hg_law h) (F.bindsN fun _ _ _ _ _ _ us hl => match us, hl with | [_], _ => rfl) sc_law fun cdv A outer s H E st => (show CSs _ (defBody (top 51)) m_law from (css_cons (cs_set 1 st.toStd.hN (ce_fn (x := "_law_bag") (fs_law_bag h) st.toStd (by first | decide | omega) (by rfl) (ca_cons (ce_var 0) ca_nil))) (css_cons (cs_set 2 st.toStd.hN (ce_tup (ca_cons (ce_str) (ca_cons (ce_str) ca_nil)))) (css_cons (cs_for st.hp st.toStd.hc (ci_range1 rfl (hf_range h) (ca_cons ce_int ca_nil)) (cg_name 3 st.toStd.hN) (css_cons (cs_set 4 st.toStd.hN (ce_fn (x := "_law_map") (fs_law_map h) st.toStd (by first | decide | omega) (by rfl) (ca_cons (ce_var 1) (ca_cons (ce_var 2) (ca_cons ce_int ca_nil))))) (css_cons (cs_setLc 5 [("k", 10)] st.toStd.hc st.toStd.hN (ci_range1 rfl (hf_range h) (ca_cons (ce_bin od_add ce_int (ce_fn (x := "_law_take") (fs_law_take h) st.toStd (by first | decide | omega) (by rfl) (ca_cons (ce_var 1) (ca_cons ce_int ca_nil)))) ca_nil)) (blkOk_by rfl) (by decide) (fun _ _ _ _ _ => (cg_name 10 (st.toStd).blk.hN)) (fun _ _ _ _ _ => cts_nil) (fun _ _ _ _ _ => (ce_fn (x := "_law_wish") (fs_law_wish h) (st.toStd).blk (by first | decide | omega) (by rfl) (ca_cons (ce_var 1) (ca_cons (ce_var 2) ca_nil))))) (css_cons (cs_set 6 st.toStd.hN (ce_Ty cb_tuple rfl (hf_tuple h) bt_tuple (ca_cons (ce_lc [("wish", 15)] st.toStd.hc st.toStd.hN (ci_any (ce_var 5)) (blkOk_by rfl) (by decide) (fun _ _ _ _ _ => (cg_name 15 (st.toStd).blk.hN)) (fun _ _ _ _ _ => cts_nil) (fun _ _ _ _ _ => (ce_if (ct_w (cw_or (ct_cmp (od_eq (st.toStd).blk.hr) (ce_fn (x := "_law_take") (fs_law_take h) (st.toStd).blk (by first | decide | omega) (by rfl) (ca_cons (ce_var 1) (ca_cons ce_int ca_nil))) ce_int) (cw_or1 (ct_val (ce_fn (x := "_law_keeps") (fs_law_keeps h) (st.toStd).blk (by first | decide | omega) (by rfl) (ca_cons (ce_var 4) (ca_cons (ce_var 15) ca_nil))))))) (ce_var 15) (ce_fn (x := "_law_contrary") (fs_law_contrary h) (st.toStd).blk (by first | decide | omega) (by rfl) (ca_cons (ce_var 15) ca_nil))))) ca_nil))) (css_cons (cs_setLc 7 [("k", 10), ("wish", 15)] st.toStd.hc st.toStd.hN (ci_enum rfl (hf_enumerate h) (ca_cons (ce_var 6) ca_nil)) (blkOk_by rfl) (by decide) (fun _ _ _ _ _ => (cg_tup (st.toStd).blk.hc (cgs_cons (cg_name 10 (st.toStd).blk.hN) (cgs_cons (cg_name 15 (st.toStd).blk.hN) cgs_nil)))) (fun _ _ _ _ _ => (cts_one (ct_not (ct_val (ce_fn (x := "_law_keeps") (fs_law_keeps h) (st.toStd).blk (by first | decide | omega) (by rfl) (ca_cons (ce_var 4) (ca_cons (ce_var 15) ca_nil))))))) (fun _ _ _ _ _ => (ce_var 10))) (css_cons (cs_set 8 st.toStd.hN (ce_Ty cb_tuple rfl (hf_tuple h) bt_tuple (ca_cons (ce_lc [("wish", 15)] st.toStd.hc st.toStd.hN (ci_any (ce_var 6)) (blkOk_by rfl) (by decide) (fun _ _ _ _ _ => (cg_name 15 (st.toStd).blk.hN)) (fun _ _ _ _ _ => cts_nil) (fun _ _ _ _ _ => (ce_if (ct_cmp (od_in (st.toStd).blk.hr) (ce_ix (st.toStd).blk.hr (ce_var 15) ce_int) (ce_tup (ca_cons (ce_str) (ca_cons (ce_str) ca_nil)))) (ce_ix (st.toStd).blk.hr (ce_bin od_add (ce_fn (x := "_law_shown") (fs_law_shown h) (st.toStd).blk (by first | decide | omega) (by rfl) (ca_cons (ce_var 4) (ca_cons (ce_var 15) ca_nil))) (ce_tup (ca_cons ce_non ca_nil))) ce_int) ce_non))) ca_nil))) (css_cons (cs_set 9 st.toStd.hN (ce_if (ct_cmp (od_eq st.toStd.hr) (ce_var 7) (ce_lst ca_nil)) (ce_tup (ca_cons (ce_str) (ca_cons (ce_var 8) ca_nil))) (ce_tup (ca_cons (ce_str) (ca_cons (ce_ix st.toStd.hr (ce_var 7) ce_int) (ca_cons (ce_if (ct_cmp (od_in st.toStd.hr) (ce_ix st.toStd.hr (ce_ix st.toStd.hr (ce_var 6) (ce_ix st.toStd.hr (ce_var 7) ce_int)) ce_int) (ce_tup (ca_cons (ce_str) (ca_cons (ce_str) ca_nil)))) ce_non (ce_ix st.toStd.hr (ce_fn (x := "_law_shown") (fs_law_shown h) st.toStd (by first | decide | omega) (by rfl) (ca_cons (ce_var 4) (ca_cons (ce_ix st.toStd.hr (ce_var 6) (ce_ix st.toStd.hr (ce_var 7) ce_int)) ca_nil))) ce_int)) ca_nil)))))) (css_cons (cs_if (ct_w (cw_or (ct_not (ct_val (ce_fn (x := "_law_alike") (fs_law_alike h) st.toStd (by first | decide | omega) (by rfl) (ca_cons (ce_fn (x := "kept_paper") (fs_kept_paper h) st.toStd (by first | decide | omega) (by rfl) (ca_cons (ce_var 4) (ca_cons (ce_var 6) ca_nil))) (ca_cons (ce_var 9) ca_nil))))) (cw_or (ct_cmp od_isNot (ce_fn (x := "is_kept_paper") (fs_is_kept_paper h) st.toStd (by first | decide | omega) (by rfl) (ca_cons (ce_var 4) (ca_cons (ce_var 6) (ca_cons (ce_var 9) ca_nil)))) ce_bl) (cw_or1 (ct_not (ct_val (ce_fn (x := "_law_is_paper") (fs_law_is_paper h) st.toStd (by first | decide | omega) (by rfl) (ca_cons (ce_var 4) (ca_cons (ce_var 6) (ca_cons (ce_var 9) ca_nil)))))))))) (css_one (cs_ret ce_bl)) css_nil) (css_cons (cs_set 10 st.toStd.hN (ce_fn (x := "_law_take") (fs_law_take h) st.toStd (by first | decide | omega) (by rfl) (ca_cons (ce_var 1) (ca_cons (ce_B cb_len rfl (hf_len h) bt_len (ca_cons (ce_var 6) ca_nil)) ca_nil)))) (css_cons (cs_set 11 st.toStd.hN (ce_lstR (ca_cons ce_non (ca_cons (ce_tup ca_nil) (ca_cons (ce_Ty cb_list rfl (hf_list h) bt_list (ca_cons (ce_var 9) ca_nil)) (ca_cons (ce_slice (ce_var 9) co_none (co_some ce_int)) (ca_cons (ce_bin od_add (ce_var 9) (ce_tup (ca_cons ce_int ca_nil))) (ca_cons (ce_bin od_add (ce_tup (ca_cons (ce_str) ca_nil)) (ce_slice (ce_var 9) (co_some ce_int) co_none)) (ca_cons (ce_tup (ca_cons (ce_str) (ca_cons (ce_var 8) ca_nil))) (ca_cons (ce_tup (ca_cons (ce_str) (ca_cons (ce_slice (ce_var 8) (co_some ce_int) co_none) ca_nil))) (ca_cons (ce_tup (ca_cons (ce_str) (ca_cons (ce_Ty cb_list rfl (hf_list h) bt_list (ca_cons (ce_var 8) ca_nil)) ca_nil))) (ca_cons (ce_tup (ca_cons (ce_str) (ca_cons ce_non ca_nil))) (ca_cons (ce_tup (ca_cons (ce_str) (ca_cons (ce_bin od_add (ce_var 8) (ce_tup (ca_cons ce_non ca_nil))) ca_nil))) ca_nil))))))))))))) (css_cons (cs_for st.hp st.toStd.hc (ci_any (ce_bin od_add (ce_lst (ca_cons ce_non (ca_cons ce_int (ca_cons ce_int (ca_cons ce_int (ca_cons ce_bl (ca_cons (ce_neg ce_int) (ca_cons (ce_tup (ca_cons ce_int (ca_cons ce_int ca_nil))) (ca_cons (ce_tup (ca_cons ce_int (ca_cons ce_int ca_nil))) (ca_cons (ce_tup (ca_cons ce_int (ca_cons ce_int ca_nil))) (ca_cons (ce_lst (ca_cons ce_int (ca_cons ce_int ca_nil))) (ca_cons (ce_tup (ca_cons ce_int ca_nil)) (ca_cons (ce_str) ca_nil))))))))))))) (ce_slice (ce_Ty cb_list rfl (hf_list h) bt_list (ca_cons (ce_fn (x := "_law_shown") (fs_law_shown h) st.toStd (by first | decide | omega) (by rfl) (ca_cons (ce_var 4) (ca_cons (ce_ix st.toStd.hr (ce_var 6) (ce_var 10)) ca_nil))) ca_nil)) (co_some (ce_neg ce_int)) co_none))) (cg_name 12 st.toStd.hN) (css_one (cs_expr (ce_m PySem.F.plainAttrs_list PySem.F.slot_list_extend PySem.F.type_list_extend tyL_of mb_extend (ce_var 11) (ca_cons (ce_lst (ca_cons (ce_tup (ca_cons (ce_str) (ca_cons (ce_bin od_add (ce_bin od_add (ce_slice (ce_var 8) co_none (co_some (ce_var 10))) (ce_tup (ca_cons (ce_var 12) ca_nil))) (ce_slice (ce_var 8) (co_some (ce_bin od_add (ce_var 10) ce_int)) co_none)) ca_nil))) (ca_cons (ce_tup (ca_cons (ce_str) (ca_cons (ce_var 10) (ca_cons (ce_var 12) ca_nil)))) ca_nil))) ca_nil))))) (css_cons (cs_expr (ce_m PySem.F.plainAttrs_list PySem.F.slot_list_extend PySem.F.type_list_extend tyL_of mb_extend (ce_var 11) (ca_cons (ce_lst (ca_cons (ce_tup (ca_cons (ce_str) (ca_cons (ce_B cb_len rfl (hf_len h) bt_len (ca_cons (ce_var 6) ca_nil)) (ca_cons ce_non ca_nil)))) (ca_cons (ce_tup (ca_cons (ce_str) (ca_cons ce_bl (ca_cons ce_non ca_nil)))) (ca_cons (ce_tup (ca_cons (ce_str) (ca_cons (ce_neg ce_int) (ca_cons ce_non ca_nil)))) (ca_cons (ce_tup (ca_cons (ce_str) (ca_cons ce_non (ca_cons ce_non ca_nil)))) ca_nil))))) ca_nil))) (css_one (cs_for st.hp st.toStd.hc (ci_any (ce_var 11)) (cg_name 13 st.toStd.hN) (css_cons (cs_set 14 st.toStd.hN (ce_fn (x := "_law_is_paper") (fs_law_is_paper h) st.toStd (by first | decide | omega) (by rfl) (ca_cons (ce_var 4) (ca_cons (ce_var 6) (ca_cons (ce_var 13) ca_nil))))) (css_one (cs_if (ct_w (cw_or (ct_not (ct_val (ce_fn (x := "_law_alike") (fs_law_alike h) st.toStd (by first | decide | omega) (by rfl) (ca_cons (ce_fn (x := "is_kept_paper") (fs_is_kept_paper h) st.toStd (by first | decide | omega) (by rfl) (ca_cons (ce_var 4) (ca_cons (ce_var 6) (ca_cons (ce_var 13) ca_nil)))) (ca_cons (ce_var 14) ca_nil))))) (cw_or1 (ct_w (cw_and (ct_val (ce_var 14)) (cw_and1 (ct_cmp (od_ne st.toStd.hr) (ce_cmp (od_eq st.toStd.hr) (ce_ix st.toStd.hr (ce_var 13) ce_int) (ce_str)) (ce_cmp (od_eq st.toStd.hr) (ce_var 7) (ce_lst ca_nil))))))))) (css_one (cs_ret ce_bl)) css_nil))))))))))))))))) (css_one (cs_ret ce_bl)))))))
end
end Zk24

namespace Zk24
open PySem PySem.Spec PyProof PyProof.Rows L2 Z
abbrev R0 : PySem.W.OpenRow := PySem.W.OpenLaw.row PySem.Challenge.rw_zoneways_k24_papers_of_wishes_kept
abbrev hk : PySem.W.Hook := He.hookD 4 fa fn
def ob (s : PySem.W.SharedT) : He.AlD := He.obsDG 4 fa fn (HandSHeadRun.getT s)
theorem ob_eq (s : PySem.W.SharedT) : ob s = hk.obs s.abs := He.obsDG_eq (HandSHeadRun.getT_eq s)
def loose : List PySem.Str := (["_wall", "__name__", "is_integer", "is_count", "ZoneError", "Nothing", "is_couple", "is_counts", "names_of", "check_cells", "memberships", "seams_between", "inner", "parts_of", "names_in", "truth_of", "is_in_by", "cells_of", "asks", "shown_by", "keeps", "all_broken", "kept_paper", "is_shown", "is_row", "is_kept_paper", "_law_bag", "_law_take", "_law_some", "_law_alike"] : List PySem.Str) ++ (["_law_couples", "_law_map", "_law_member", "_law_is_in", "_law_keeps", "_law_term", "_law_wish", "_law_is_int", "_law_is_count", "_law_seams_of", "_law_cells_of", "_law_shown", "_law_contrary", "_law_is_shown", "_law_is_paper"] : List PySem.Str)
theorem run (w : World) : HandSHeadRun.RunEq R0 (PySem.W.view R0.prog [51]) hk ob 4000 loose w := by
  intro os
  kernel_rfl
end Zk24

open PySem PySem.W PySem.Calls PyProof.Rows Z in
theorem PySem.Challenge.cw_zoneways_k24_papers_of_wishes_kept_holds : PySem.Challenge.rw_zoneways_k24_papers_of_wishes_kept.Holds := by
  w_on; o_law
  refine HandSHeadRun.head_any (r := OpenLaw.row PySem.Challenge.rw_zoneways_k24_papers_of_wishes_kept) (q := view (OpenLaw.row PySem.Challenge.rw_zoneways_k24_papers_of_wishes_kept).prog [51]) (H := Zk24.hk) (ob := Zk24.ob) (M := 4000) (loose := Zk24.loose) (d := HandSHeadRun.topDef (OpenLaw.row PySem.Challenge.rw_zoneways_k24_papers_of_wishes_kept).prog 51) (kwd := []) Zk24.ob_eq (by kernel_rfl) (fun s => by kernel_rfl) Zk24.run (by kernel_rfl) (by kernel_rfl) (by kernel_rfl) (by rfl) (by first | assumption | decide +kernel) (by decide +kernel) ⟨rfl, rfl, rfl, rfl, rfl, by decide +kernel⟩ ?hw ?hc
  case hw => w_witness2
  case hc =>
    refine Z.walkG (l := PySem.Challenge.rw_zoneways_k24_papers_of_wishes_kept) (n := 63) (k := 13) (x := "script") (CX := fun w => L2.CX (PySem.Challenge.rw_zoneways_k24_papers_of_wishes_kept).prog w) rfl (by decide) (by kernel_rfl) ⟨rfl, by decide, by decide⟩ ?F ?G
    case G =>
      intro w H s e s2 z
      obtain ⟨_, _, _, _, _, _, _, _, _, _, _, _, y⟩ := z
      exact y
    case F =>
      intro w mg fa h Y G hmg0
      obtain ⟨K, KX, c⟩ := Y
      have hf : Zk24.HF K mg := ⟨c, h, KX, G⟩
      have hmg : mg ("law" : PySem.Str) = some (.ref fa) := by
        have e : (HandSHeadRun.topDef (OpenLaw.row PySem.Challenge.rw_zoneways_k24_papers_of_wishes_kept).prog 51).name = ("law" : PySem.Str) := by kernel_rfl
        rw [← e]
        exact hmg0
      exact ⟨K, Z.law_end KX hmg (fun base => Zk24.fs_law (P := (PySem.Challenge.rw_zoneways_k24_papers_of_wishes_kept).prog) (w := w) (base := base) hf) Zk24.law_true⟩
