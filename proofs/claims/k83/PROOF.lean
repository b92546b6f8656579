import PyProof.Rows.All
import PySem.Challenge.RW_stormwards_k83_whole_looks_that_end_at_o
import Wide.All
import OpenK.AllK
import Wide.FinOn
import HandS.ForMost
import HandS.TupAny
import HandS.Style
import HandS.Walk
import KE.DataEq
import KE.DataCmp
import KE.SortData
import KE.KDictKeyed
import PyProof.ReprRoads
import HandS.TupMul
import HandS.WordsDict
import HandS.TupLen
import HandS.Conv
import HandS.DictComp
import PyProof.ReprBulk
import PyProof.Rows.ReprShort
set_option Elab.async false
set_option linter.all false
set_option maxRecDepth 100000
set_option maxHeartbeats 2000000

/-! U1: abstract data, how it lies in the heap, the state relation. -/
namespace U
open PySem PySem.Spec PyProof.Rows L2

/- abstract data; ref n: the n-th shared object -/
inductive D where
  | non | bl (b : Bool) | int (i : Int) | str (x : Str)
  | tup (xs : List D) | lst (xs : List D) | dct (kvs : List (D × D)) | ref (n : Nat) | scr (xs : List D) | pr (xs : List D)

mutual
def toP : D → PyData
  | .non => .none
  | .bl b => .bool b
  | .int i => .int i
  | .str x => .str x
  | .tup xs => .tuple (toPs xs)
  | .lst xs => .list (toPs xs)
  | .dct kvs => .dict (toPk kvs)
  | .ref _ => .none
  | .scr xs => .list (toPs xs)
  | .pr _ => .none
def toPs : List D → List PyData
  | [] => []
  | x :: xs => toP x :: toPs xs
def toPk : List (D × D) → List (PyData × PyData)
  | [] => []
  | (k, v) :: r => (toP k, toP v) :: toPk r
end
theorem toPs_eq : ∀ xs : List D, toPs xs = xs.map toP
  | [] => rfl
  | x :: xs => by rw [toPs, toPs_eq xs, List.map_cons]

/- plain data: no dict, no shared object; n levels at the most -/
mutual
def flat : Nat → D → Bool
  | _, .non => true
  | _, .bl _ => true
  | _, .int _ => true
  | _, .str _ => true
  | n, .tup xs => match n with | 0 => false | n + 1 => flats n xs
  | n, .lst xs => match n with | 0 => false | n + 1 => flats n xs
  | _, .dct _ => false
  | _, .ref _ => false
  | _, .scr _ => false
  | _, .pr _ => false
def flats : Nat → List D → Bool
  | _, [] => true
  | n, x :: xs => flat n x && flats n xs
end

/- a key of a dict whose keys are ints and texts -/
def keyD : Key → D
  | .inl i => .int i
  | .inr x => .str x
/- a key that is a tuple (nested) -/
mutual
def nkey : D → Option NestedKey
  | .non => some .none
  | .bl b => some (.num (if b then 1 else 0))
  | .int i => some (.num i)
  | .str x => some (.text x)
  | .tup xs => (nkeys xs).map .tup
  | .lst _ => none
  | .dct _ => none
  | .ref _ => none
  | .scr _ => none
  | .pr _ => none
def nkeys : List D → Option (List NestedKey)
  | [] => some []
  | x :: xs => match nkey x, nkeys xs with
    | some k, some ks => some (k :: ks)
    | _, _ => none
end

/- where things stand: F what is frozen, mu the k shared objects, al the slots' own objects -/
structure Lay where
  F : Hp
  mu : Nat → Addr
  k : Nat
  al : Nat → Addr
abbrev Lc := Sum Nat Nat
def Lay.ad (L : Lay) : Lc → Addr
  | .inl i => L.al i
  | .inr n => L.mu n

section
variable (P : Program) (w : World) (K : PySem.W.Frag)

/- the dict object at a, by its entries: key, where the key's tuple stands, value -/
def dphi (a : Addr) (xs : List (NestedKey × Addr × V)) : Heap → Prop := fun h =>
  (a == sysModules) = false ∧ xs.length ≤ sizeLine ∧ (xs.map (·.1)).Nodup ∧ ∃ ys : List (NestedKey × Addr × Value),
    Paired (fun (x : NestedKey × Addr × V) (y : NestedKey × Addr × Value) => x.1 = y.1 ∧ x.2.1 = y.2.1 ∧ RelV x.2.2 y.2.2) xs ys ∧
    ∃ o es ep, h.get? a = some o ∧ o.ExactDict ∧ o.data = .dict es ep ∧ es.toList = ys.map (entryOfKey (nestedKind P w))

/- a tuple that is known to be a plain one -/
def TP (K : PySem.W.Frag) (H : Hp) (a : Addr) (xs : List V) : Prop := (∃ o, H a = some (.frz o (.tup xs)) ∧ (o.dict = none ∧ o.slots = #[])) ∨
  ∃ (o : Obj) (its : Array Value) (n : Nat), K.lookup a = some o ∧ o.cls = .type "tuple" ∧ (o.dict = none ∧ o.slots = #[]) ∧ o.data = .seq its n ∧ its.size ≤ sizeLine ∧ Vals xs its.toList
/- the value v is the datum d -/
mutual
def RD (L : Lay) : D → V → Prop
  | .non, v => v = .non
  | .bl b, v => v = .bl b
  | .int i, v => v = .int i
  | .str x, v => v = .str x
  | .tup xs, v => ∃ a vs, v = .ref a ∧ TP K L.F a vs ∧ RDs L xs vs
  | .pr xs, v => ∃ a vs, v = .ref a ∧ SqT K L.F a vs ∧ RDs L xs vs
  | .lst xs, v => ∃ a vs, v = .ref a ∧ L.F a = some (.lst vs) ∧ RDs L xs vs
  | .dct kvs, v => ∃ a, v = .ref a ∧ ((∃ es, L.F a = some (.dK es) ∧ RDk L kvs es) ∨ ∃ es, L.F a = some (.ext (dphi P w a es)) ∧ es ≠ [] ∧ RDh L kvs es)
  | .ref n, v => n < L.k ∧ v = .ref (L.mu n)
  | .scr xs, v => ∃ a vs, v = .ref a ∧ SqL K L.F a vs ∧ RDs L xs vs
def RDs (L : Lay) : List D → List V → Prop
  | [], vs => vs = []
  | d :: ds, vs => ∃ v r, vs = v :: r ∧ RD L d v ∧ RDs L ds r
def RDk (L : Lay) : List (D × D) → List (Key × V) → Prop
  | [], vs => vs = []
  | (k, d) :: ds, vs => ∃ k' v r, vs = (k', v) :: r ∧ k = keyD k' ∧ RD L d v ∧ RDk L ds r
def RDh (L : Lay) : List (D × D) → List (NestedKey × Addr × V) → Prop
  | [], vs => vs = []
  | (k, d) :: ds, vs => ∃ k' b v r, vs = (k', b, v) :: r ∧ nkey k = some k' ∧ k'.depth ≤ 8 ∧ RD L k (.ref b) ∧ RD L d v ∧ RDh L ds r
end

/- the object at a (in H) holds the list or dict d -/
def Cel (L : Lay) (H : Hp) (a : Addr) : D → Prop
  | .lst xs => ∃ vs, H a = some (.lst vs) ∧ RDs P w K L xs vs
  | .dct kvs => (∃ es, H a = some (.dK es) ∧ RDk P w K L kvs es) ∨ ∃ es, H a = some (.ext (dphi P w a es)) ∧ es ≠ [] ∧ RDh P w K L kvs es
  | _ => False

inductive Sl where
  | un | va (d : D) | ow (d : D)
abbrev Ev := List Sl
abbrev AH := List D

/- what stands at a place that may be changed: a slot's own list or dict, a shared object -/
def at' (env : Ev) (ah : AH) : Lc → Option D
  | .inl i => match env[i]? with | some (Sl.ow d) => some d | _ => none
  | .inr n => ah[n]?

/- the heap bears the state -/
structure HR (L : Lay) (env : Ev) (ah : AH) (H : Hp) : Prop where
  k : L.k = ah.length
  cell : ∀ l d, at' env ah l = some d → Cel P w K L H (L.ad l) d ∧ L.F (L.ad l) = none
  sub : Same L.F H
  inj : ∀ l l' d d', at' env ah l = some d → at' env ah l' = some d' → L.ad l = L.ad l' → l = l'
/- the frame bears the state -/
structure SR (L : Lay) (env : Ev) (σ : L2.St) : Prop where
  len : σ.length = env.length
  val : ∀ (i : Nat) (d : D), env[i]? = some (Sl.va d) → ∃ v, σ[i]? = some (some v) ∧ RD P w K L d v
  own : ∀ (i : Nat) (d : D), env[i]? = some (Sl.ow d) → σ[i]? = some (some (V.ref (L.al i)))
structure Rl (L : Lay) (env : Ev) (ah : AH) (σ : L2.St) (H : Hp) : Prop where
  hr : HR P w K L env ah H
  sr : SR P w K L env σ
end

/- later: data stay data -/
structure Le (L L' : Lay) : Prop where
  same : Same L.F L'.F
  k : L.k ≤ L'.k
  mu : ∀ n, n < L.k → L'.mu n = L.mu n
theorem Le.refl (L : Lay) : Le L L := ⟨Same.refl _, Nat.le_refl _, fun _ _ => rfl⟩
theorem Le.trans {L L1 L2 : Lay} (a : Le L L1) (b : Le L1 L2) : Le L L2 :=
  ⟨a.same.trans b.same, Nat.le_trans a.k b.k, fun n h => (b.mu n (Nat.lt_of_lt_of_le h a.k)).trans (a.mu n h)⟩

/- from one state to a later one -/
structure Stp (L : Lay) (env : Ev) (ah : AH) (H : Hp) (L' : Lay) (env' : Ev) (ah' : AH) (H' : Hp) : Prop where
  le : Le L L'
  frm : ∀ a o, H a = some o → (∀ l d, at' env ah l = some d → L.ad l ≠ a) → H' a = some o
  liv : ∀ l d, at' env' ah' l = some d → (∃ l0 d0, at' env ah l0 = some d0 ∧ L.ad l0 = L'.ad l) ∨ H (L'.ad l) = none
  frz : ∀ a o, L'.F a = some o → L.F a = some o ∨ H a = none ∨ ∃ l0 d0, at' env ah l0 = some d0 ∧ L.ad l0 = a

theorem Stp.refl {L : Lay} {env : Ev} {ah : AH} {H : Hp} : Stp L env ah H L env ah H :=
  ⟨Le.refl _, fun _ _ h _ => h, fun l d h => .inl ⟨l, d, h, rfl⟩, fun _ _ h => .inl h⟩
theorem Stp.trans {L L1 L2 : Lay} {env env1 env2 : Ev} {ah ah1 ah2 : AH} {H H1 H2 : Hp} (a : Stp L env ah H L1 env1 ah1 H1) (b : Stp L1 env1 ah1 H1 L2 env2 ah2 H2) : Stp L env ah H L2 env2 ah2 H2 := by
  have back : ∀ x, H1 x = none → H x = none ∨ ∃ l0 d0, at' env ah l0 = some d0 ∧ L.ad l0 = x := fun x h1 => by
    cases e : H x with
    | none => exact .inl rfl
    | some o =>
      refine .inr (Classical.byContradiction fun hn => ?_)
      have := a.frm x o e fun l d hl e' => hn ⟨l, d, hl, e'⟩
      rw [h1] at this
      cases this
  refine ⟨a.le.trans b.le, fun x o h hl => ?_, fun l d h => ?_, fun x o h => ?_⟩
  · refine b.frm x o (a.frm x o h hl) fun l d h1 e => ?_
    rcases a.liv l d h1 with ⟨l0, d0, h0, e0⟩ | h0
    · exact hl l0 d0 h0 (e0.trans e)
    · rw [e, h] at h0
      cases h0
  · rcases b.liv l d h with ⟨l1, d1, h1, e1⟩ | h1
    · rcases a.liv l1 d1 h1 with ⟨l0, d0, h0, e0⟩ | h0
      · exact .inl ⟨l0, d0, h0, e0.trans e1⟩
      · exact .inr (e1 ▸ h0)
    · rcases back _ h1 with h0 | h0
      · exact .inr h0
      · exact .inl h0
  · rcases b.frz x o h with h1 | h1 | ⟨l1, d1, h1, e1⟩
    · exact a.frz x o h1
    · rcases back _ h1 with h0 | h0
      · exact .inr (.inl h0)
      · exact .inr (.inr h0)
    · rcases a.liv l1 d1 h1 with ⟨l0, d0, h0, e0⟩ | h0
      · exact .inr (.inr ⟨l0, d0, h0, e0.trans e1⟩)
      · exact .inr (.inl (e1 ▸ h0))

theorem tp_same {K : PySem.W.Frag} {F F' : Hp} {a : Addr} {xs : List V} (e : Same F F') (h : TP K F a xs) : TP K F' a xs := by
  rcases h with ⟨o, h, hd⟩ | h
  · exact .inl ⟨o, e _ _ h, hd⟩
  · exact .inr h
theorem sq_same {K : PySem.W.Frag} {F F' : Hp} {a : Addr} {xs : List V} (e : Same F F') (h : SqT K F a xs) : SqT K F' a xs := by
  rcases h with (h | ⟨o, h⟩) | h
  · exact .inl (.inl (e _ _ h))
  · exact .inl (.inr ⟨o, e _ _ h⟩)
  · exact .inr h
theorem TP.sq {K : PySem.W.Frag} {F : Hp} {a : Addr} {xs : List V} (h : TP K F a xs) : SqT K F a xs := by
  rcases h with ⟨o, h, _⟩ | ⟨o, its, n, h1, h2, _, h3⟩
  · exact .inl (.inr ⟨o, h⟩)
  · exact .inr ⟨o, its, n, h1, h2, h3⟩
theorem sqT_same {K : PySem.W.Frag} {F F' : Hp} {a : Addr} {xs : List V} (e : Same F F') (h : TP K F a xs) : SqT K F' a xs := (tp_same e h).sq
theorem same_upd {H : Hp} {p : Addr} {o : HO} (h : H p = none) : Same H (upd H p o) := fun b x e => by
  rw [upd_ne (ne_of_none e h)]
  exact e

section
variable {P : Program} {w : World} {K : PySem.W.Frag} {L L' : Lay} {env : Ev} {ah : AH} {H : Hp}

mutual
theorem RD.mono (e : Le L L') : ∀ {d : D} {v : V}, RD P w K L d v → RD P w K L' d v
  | .non, v, h => by rw [RD] at h ⊢; exact h
  | .bl b, v, h => by rw [RD] at h ⊢; exact h
  | .int i, v, h => by rw [RD] at h ⊢; exact h
  | .str x, v, h => by rw [RD] at h ⊢; exact h
  | .tup xs, v, h => by
    rw [RD] at h ⊢
    obtain ⟨a, vs, e1, h1, h2⟩ := h
    exact ⟨a, vs, e1, tp_same e.same h1, RDs.mono e h2⟩
  | .pr xs, v, h => by
    rw [RD] at h ⊢
    obtain ⟨a, vs, e1, h1, h2⟩ := h
    exact ⟨a, vs, e1, sq_same e.same h1, RDs.mono e h2⟩
  | .lst xs, v, h => by
    rw [RD] at h ⊢
    obtain ⟨a, vs, e1, h1, h2⟩ := h
    exact ⟨a, vs, e1, e.same _ _ h1, RDs.mono e h2⟩
  | .scr xs, v, h => by
    rw [RD] at h ⊢
    obtain ⟨a, vs, e1, h1, h2⟩ := h
    exact ⟨a, vs, e1, e.same.seq h1, RDs.mono e h2⟩
  | .dct kvs, v, h => by
    rw [RD] at h ⊢
    obtain ⟨a, e1, h⟩ := h
    rcases h with ⟨es, h1, h2⟩ | ⟨es, h1, h0, h2⟩
    · exact ⟨a, e1, .inl ⟨es, e.same _ _ h1, RDk.mono e h2⟩⟩
    · exact ⟨a, e1, .inr ⟨es, e.same _ _ h1, h0, RDh.mono e h2⟩⟩
  | .ref n, v, h => by
    rw [RD] at h ⊢
    exact ⟨Nat.lt_of_lt_of_le h.1 e.k, by rw [e.mu n h.1]; exact h.2⟩
theorem RDs.mono (e : Le L L') : ∀ {ds : List D} {vs : List V}, RDs P w K L ds vs → RDs P w K L' ds vs
  | [], vs, h => by rw [RDs] at h ⊢; exact h
  | d :: ds, vs, h => by
    rw [RDs] at h ⊢
    obtain ⟨v, r, e1, h1, h2⟩ := h
    exact ⟨v, r, e1, RD.mono e h1, RDs.mono e h2⟩
theorem RDk.mono (e : Le L L') : ∀ {ds : List (D × D)} {vs : List (Key × V)}, RDk P w K L ds vs → RDk P w K L' ds vs
  | [], vs, h => by rw [RDk] at h ⊢; exact h
  | (k, d) :: ds, vs, h => by
    rw [RDk] at h ⊢
    obtain ⟨k', v, r, e1, h0, h1, h2⟩ := h
    exact ⟨k', v, r, e1, h0, RD.mono e h1, RDk.mono e h2⟩
theorem RDh.mono (e : Le L L') : ∀ {ds : List (D × D)} {vs : List (NestedKey × Addr × V)}, RDh P w K L ds vs → RDh P w K L' ds vs
  | [], vs, h => by rw [RDh] at h ⊢; exact h
  | (k, d) :: ds, vs, h => by
    rw [RDh] at h ⊢
    obtain ⟨k', b, v, r, e1, h0, hd, h1, h2, h3⟩ := h
    exact ⟨k', b, v, r, e1, h0, hd, RD.mono e h1, RD.mono e h2, RDh.mono e h3⟩
end
theorem Cel.mono (e : Le L L') {a : Addr} : ∀ {d : D}, Cel P w K L H a d → Cel P w K L' H a d
  | .lst xs, ⟨vs, h1, h2⟩ => ⟨vs, h1, RDs.mono e h2⟩
  | .dct kvs, .inl ⟨es, h1, h2⟩ => .inl ⟨es, h1, RDk.mono e h2⟩
  | .dct kvs, .inr ⟨es, h1, h0, h2⟩ => .inr ⟨es, h1, h0, RDh.mono e h2⟩
/- a cell hangs on its one object -/
theorem Cel.at {H' : Hp} {a : Addr} : ∀ {d : D}, Cel P w K L H a d → H' a = H a → Cel P w K L H' a d
  | .lst xs, ⟨vs, h1, h2⟩, e => ⟨vs, e.trans h1, h2⟩
  | .dct kvs, .inl ⟨es, h1, h2⟩, e => .inl ⟨es, e.trans h1, h2⟩
  | .dct kvs, .inr ⟨es, h1, h0, h2⟩, e => .inr ⟨es, e.trans h1, h0, h2⟩
theorem Cel.there {a : Addr} : ∀ {d : D}, Cel P w K L H a d → ∃ o, H a = some o ∧ Mut (some o)
  | .lst xs, ⟨vs, h1, h2⟩ => ⟨_, h1, trivial⟩
  | .dct kvs, .inl ⟨es, h1, h2⟩ => ⟨_, h1, trivial⟩
  | .dct kvs, .inr ⟨es, h1, h2⟩ => ⟨_, h1, trivial⟩

theorem RDs.iff : ∀ {ds : List D} {vs : List V}, RDs P w K L ds vs ↔ Paired (RD P w K L) ds vs
  | [], vs => by
    rw [RDs]
    exact ⟨fun h => by subst h; exact .nil, fun h => by cases h; rfl⟩
  | d :: ds, vs => by
    rw [RDs]
    constructor
    · rintro ⟨v, r, rfl, h1, h2⟩
      exact .cons h1 (RDs.iff.mp h2)
    · intro h
      cases h with
      | cons h1 h2 => exact ⟨_, _, rfl, h1, RDs.iff.mpr h2⟩
theorem RDs.length {ds : List D} {vs : List V} (h : RDs P w K L ds vs) : ds.length = vs.length := Paired.length (RDs.iff.mp h)

/- the state in hand: nothing but fresh things behind an expression -/
structure Go (P : Program) (w : World) (K : PySem.W.Frag) (L : Lay) (env : Ev) (ah : AH) (H : Hp) (L' : Lay) (ah' : AH) (H' : Hp) : Prop where
  stp : Stp L env ah H L' env ah' H'
  hr : HR P w K L' env ah' H'
  al : L'.al = L.al
theorem Go.refl (h : HR P w K L env ah H) : Go P w K L env ah H L ah H := ⟨Stp.refl, h, rfl⟩
theorem Go.trans {L1 L2 : Lay} {ah1 ah2 : AH} {H1 H2 : Hp} (a : Go P w K L env ah H L1 ah1 H1) (b : Go P w K L1 env ah1 H1 L2 ah2 H2) : Go P w K L env ah H L2 ah2 H2 :=
  ⟨a.stp.trans b.stp, b.hr, b.al.trans a.al⟩
theorem SR.mono {σ : L2.St} (s : SR P w K L env σ) (e : Le L L') (al : L'.al = L.al) : SR P w K L' env σ :=
  ⟨s.len, fun i d h => let ⟨v, h1, h2⟩ := s.val i d h; ⟨v, h1, h2.mono e⟩, fun i d h => by rw [al]; exact s.own i d h⟩
theorem Rl.go {σ : L2.St} {L1 : Lay} {ah1 : AH} {H1 : Hp} (r : Rl P w K L env ah σ H) (g : Go P w K L env ah H L1 ah1 H1) : Rl P w K L1 env ah1 σ H1 :=
  ⟨g.hr, r.sr.mono g.stp.le g.al⟩

/- the value of an expression: a datum, a slot's own object, a fresh object -/
inductive Rw where
  | v (d : D) | o (i : Nat) | f (d : D)
def RW (P : Program) (w : World) (K : PySem.W.Frag) (H0 : Hp) (L : Lay) (env : Ev) (ah : AH) (H : Hp) : Rw → V → Prop
  | .v d, x => RD P w K L d x
  | .o i, x => x = .ref (L.al i) ∧ ∃ d, env[i]? = some (Sl.ow d)
  | .f d, x => ∃ a, x = .ref a ∧ Cel P w K L H a d ∧ L.F a = none ∧ (∀ l d, at' env ah l = some d → L.ad l ≠ a) ∧ H0 a = none
theorem RW.go {L1 : Lay} {ah1 : AH} {H0 H1 : Hp} (g : Go P w K L env ah H L1 ah1 H1) : ∀ {r : Rw} {x : V}, RW P w K H0 L env ah H r x → RW P w K H0 L1 env ah1 H1 r x
  | .v d, x, h => RD.mono g.stp.le h
  | .o i, x, h => by
    obtain ⟨h1, h2⟩ := h
    exact ⟨by rw [g.al]; exact h1, h2⟩
  | .f d, x, h => by
    obtain ⟨a, e, c, hf, hl, h0⟩ := h
    obtain ⟨o, ho, _⟩ := c.there
    refine ⟨a, e, (c.at ((g.stp.frm a o ho hl).trans ho.symm)).mono g.stp.le, ?_, fun l d h e' => ?_, h0⟩
    · cases q : L1.F a with
      | none => rfl
      | some u =>
        rcases g.stp.frz a u q with z | z | ⟨l, d, z, e'⟩
        · rw [hf] at z; cases z
        · rw [ho] at z; cases z
        · exact absurd e' (hl l d z)
    · rcases g.stp.liv l d h with ⟨l0, d0, h0, e0⟩ | h0
      · exact hl l0 d0 h0 (e0.trans e')
      · rw [e', ho] at h0; cases h0
/- what stands nowhere later stood nowhere -/
theorem Go.back {L1 : Lay} {ah1 : AH} {H1 : Hp} (hr : HR P w K L env ah H) (g : Go P w K L env ah H L1 ah1 H1) {a : Addr} (h : H1 a = none) : H a = none := by
  cases q : H a with
  | none => rfl
  | some o =>
    refine absurd h ?_
    by_cases hl : ∃ l d, at' env ah l = some d ∧ L.ad l = a
    · obtain ⟨l, d, hl, e⟩ := hl
      have here : ∃ d', at' env ah1 l = some d' ∧ L1.ad l = a := by
        cases l with
        | inl i => exact ⟨d, hl, by rw [← e]; show L1.al i = L.al i; rw [g.al]⟩
        | inr n =>
          have hn : n < ah.length := (List.getElem?_eq_some_iff.mp (show ah[n]? = some d from hl)).1
          have hk := g.stp.le.k
          rw [hr.k, g.hr.k] at hk
          exact ⟨_, List.getElem?_eq_getElem (Nat.lt_of_lt_of_le hn hk), by rw [← e]; exact g.stp.le.mu n (by rw [hr.k]; exact hn)⟩
      obtain ⟨d', h', e'⟩ := here
      obtain ⟨o', ho', _⟩ := (g.hr.cell l d' h').1.there
      rw [e'] at ho'
      rw [ho']
      exact fun z => nomatch z
    · rw [g.stp.frm a o q fun l d h' e' => hl ⟨l, d, h', e'⟩]
      exact fun z => nomatch z
theorem RW.back {L1 : Lay} {ah1 : AH} {H1 : Hp} (hr : HR P w K L env ah H) (g : Go P w K L env ah H L1 ah1 H1) {L2 : Lay} {ah2 : AH} {H2 : Hp} : ∀ {r : Rw} {x : V}, RW P w K H1 L2 env ah2 H2 r x → RW P w K H L2 env ah2 H2 r x
  | .v d, x, h => h
  | .o i, x, h => h
  | .f d, x, ⟨a, e, c, hf, hl, h0⟩ => ⟨a, e, c, hf, hl, g.back hr h0⟩

def Rw.val : Rw → Option D
  | .v d => some d
  | .f d => some d
  | .o _ => none
/- what is to be read there -/
def Rw.rd (env : Ev) (ah : AH) : Rw → Option D
  | .v d => match d with | .ref n => ah[n]? | d => some d
  | .f d => some d
  | .o i => match env[i]? with | some (Sl.ow d) => some d | _ => none
/- x may be read as d -/
def RB (P : Program) (w : World) (K : PySem.W.Frag) (L : Lay) (H : Hp) : D → V → Prop
  | .lst xs, x => ∃ a vs, x = .ref a ∧ H a = some (.lst vs) ∧ RDs P w K L xs vs
  | .dct kvs, x => ∃ a, x = .ref a ∧ ((∃ es, H a = some (.dK es) ∧ RDk P w K L kvs es) ∨ ∃ es, H a = some (.ext (dphi P w a es)) ∧ es ≠ [] ∧ RDh P w K L kvs es)
  | d, x => RD P w K L d x
theorem RB.of (s : Same L.F H) : ∀ {d : D} {x : V}, RD P w K L d x → RB P w K L H d x
  | .non, x, h => h
  | .bl b, x, h => h
  | .int i, x, h => h
  | .str z, x, h => h
  | .tup xs, x, h => h
  | .ref n, x, h => h
  | .scr n, x, h => h
  | .pr n, x, h => h
  | .lst xs, x, h => by
    rw [RD] at h
    obtain ⟨a, vs, e, h1, h2⟩ := h
    exact ⟨a, vs, e, s _ _ h1, h2⟩
  | .dct kvs, x, h => by
    rw [RD] at h
    obtain ⟨a, e, h⟩ := h
    rcases h with ⟨es, h1, h2⟩ | ⟨es, h1, h0, h2⟩
    · exact ⟨a, e, .inl ⟨es, s _ _ h1, h2⟩⟩
    · exact ⟨a, e, .inr ⟨es, s _ _ h1, h0, h2⟩⟩
theorem RB.cel {a : Addr} : ∀ {d : D}, Cel P w K L H a d → RB P w K L H d (.ref a)
  | .lst xs, ⟨vs, h1, h2⟩ => ⟨a, vs, rfl, h1, h2⟩
  | .dct kvs, h => ⟨a, rfl, h⟩
theorem RW.rd {H0 : Hp} (hr : HR P w K L env ah H) : ∀ {r : Rw} {x : V} {d : D}, RW P w K H0 L env ah H r x → r.rd env ah = some d → RB P w K L H d x
  | .v d0, x, d, h, e => by
    have h : RD P w K L d0 x := h
    have dflt : some d0 = some d → RB P w K L H d x := fun e => by
      cases e
      exact RB.of hr.sub h
    cases d0 with
    | ref n =>
      rw [RD] at h
      obtain ⟨_, rfl⟩ := h
      exact RB.cel (hr.cell (.inr n) d e).1
    | non => exact dflt e
    | bl _ => exact dflt e
    | int _ => exact dflt e
    | str _ => exact dflt e
    | tup _ => exact dflt e
    | lst _ => exact dflt e
    | dct _ => exact dflt e
    | scr _ => exact dflt e
    | pr _ => exact dflt e
  | .o i, x, d, h, e => by
    obtain ⟨rfl, d', h⟩ := h
    have e : at' env ah (.inl i) = some d := e
    exact RB.cel (hr.cell (.inl i) d e).1
  | .f d0, x, d, h, e => by
    obtain ⟨a, rfl, c, _⟩ := h
    cases e
    exact RB.cel c

/- a fresh thing is laid: it may be frozen -/
def Lay.frz (L : Lay) (a : Addr) (o : HO) : Lay := { L with F := upd L.F a o }
theorem HR.fresh (hr : HR P w K L env ah H) {p : Addr} (hp : H p = none) : L.F p = none ∧ ∀ l d, at' env ah l = some d → L.ad l ≠ p := by
  refine ⟨?_, fun l d h e => ?_⟩
  · cases q : L.F p with
    | none => rfl
    | some o => rw [hr.sub _ _ q] at hp; cases hp
  · obtain ⟨o, h1, _⟩ := (hr.cell l d h).1.there
    rw [e, hp] at h1
    cases h1
theorem le_frz {p : Addr} {o : HO} (hf : L.F p = none) : Le L (L.frz p o) := ⟨same_upd hf, Nat.le_refl _, fun _ _ => rfl⟩
/- a fresh thing stands beside -/
theorem HR.beside (hr : HR P w K L env ah H) {p : Addr} {o : HO} (hp : H p = none) : HR P w K L env ah (upd H p o) :=
  ⟨hr.k, fun l d h => ⟨(hr.cell l d h).1.at (upd_ne ((hr.fresh hp).2 l d h)), (hr.cell l d h).2⟩, hr.sub.trans (same_upd hp), hr.inj⟩
theorem Go.beside (hr : HR P w K L env ah H) {p : Addr} {o : HO} (hp : H p = none) : Go P w K L env ah H L ah (upd H p o) :=
  ⟨⟨Le.refl _, fun a u h _ => same_upd hp a u h, fun l d h => .inl ⟨l, d, h, rfl⟩, fun _ _ h => .inl h⟩, hr.beside hp, rfl⟩
/- a thing that stands, and is nobody's, is frozen -/
theorem Go.freeze (hr : HR P w K L env ah H) {p : Addr} {o : HO} (hp : H p = some o) (hf : L.F p = none) (hl : ∀ l d, at' env ah l = some d → L.ad l ≠ p) :
    HR P w K (L.frz p o) env ah H := by
  refine ⟨hr.k, fun l d h => ⟨(hr.cell l d h).1.mono (le_frz hf), ?_⟩, fun a u h => ?_, hr.inj⟩
  · show (upd L.F p o) (L.ad l) = none
    rw [upd_ne (hl l d h)]
    exact (hr.cell l d h).2
  · have h : (upd L.F p o) a = some u := h
    by_cases e : a = p
    · subst e
      rw [upd_same] at h
      cases h
      exact hp
    · rw [upd_ne e] at h
      exact hr.sub a u h
theorem Go.newFrz (hr : HR P w K L env ah H) {p : Addr} {o : HO} (hp : H p = none) : Go P w K L env ah H (L.frz p o) ah (upd H p o) := by
  obtain ⟨hf, hl⟩ := hr.fresh hp
  refine ⟨⟨le_frz hf, fun a u h _ => same_upd hp a u h, fun l d h => .inl ⟨l, d, h, rfl⟩, fun a u h => ?_⟩, Go.freeze (hr.beside hp) upd_same hf hl, rfl⟩
  have h : (upd L.F p o) a = some u := h
  by_cases e : a = p
  · subst e
    exact .inr (.inl hp)
  · rw [upd_ne e] at h
    exact .inl h
/- an expression's value as a datum: a fresh thing is frozen -/
theorem RW.val {L1 : Lay} {ah1 : AH} {H1 : Hp} (g : Go P w K L env ah H L1 ah1 H1) : ∀ {r : Rw} {x : V} {d : D}, RW P w K H L1 env ah1 H1 r x → r.val = some d → ∃ L2, Go P w K L env ah H L2 ah1 H1 ∧ RD P w K L2 d x
  | .v d0, x, d, h, e => by
    cases e
    exact ⟨L1, g, h⟩
  | .o i, x, d, h, e => nomatch e
  | .f d0, x, d, h, e => by
    cases e
    obtain ⟨a, rfl, c, hf, hl, h0⟩ := h
    obtain ⟨o, ho, _⟩ := c.there
    have le := le_frz (L := L1) (p := a) (o := o) hf
    refine ⟨L1.frz a o, ⟨⟨g.stp.le.trans le, g.stp.frm, g.stp.liv, fun b u h => ?_⟩, Go.freeze g.hr ho hf hl, g.al⟩, ?_⟩
    · have h : (upd L1.F a o) b = some u := h
      by_cases e : b = a
      · subst e
        exact .inr (.inl h0)
      · rw [upd_ne e] at h
        exact g.stp.frz b u h
    · have here : (L1.frz a o).F a = some o := upd_same
      cases d0 with
      | lst xs =>
        obtain ⟨vs, h1, h2⟩ := c
        rw [ho] at h1
        cases h1
        rw [RD]
        exact ⟨a, vs, rfl, here, h2.mono le⟩
      | dct kvs =>
        rw [RD]
        refine ⟨a, rfl, ?_⟩
        rcases c with ⟨es, h1, h2⟩ | ⟨es, h1, h3, h2⟩
        · rw [ho] at h1
          cases h1
          exact .inl ⟨es, here, h2.mono le⟩
        · rw [ho] at h1
          cases h1
          exact .inr ⟨es, here, h3, h2.mono le⟩
      | _ => exact False.elim c

/-! ### readings -/
abbrev FE := Ev → AH → Option (Rw × AH)
abbrev FV := Ev → AH → Option (D × AH)
abbrev FB := Ev → AH → Option (Bool × AH)
abbrev FA := Ev → AH → Option (List D × AH)
variable (P w K)
def TE (f : FE) : L2.TE := fun σ H Q => ∃ L env ah, Rl P w K L env ah σ H ∧ ∃ r ah', f env ah = some (r, ah') ∧ ∀ L' v H', Go P w K L env ah H L' ah' H' → RW P w K H L' env ah' H' r v → Q v H'
def TV (f : FV) : L2.TE := fun σ H Q => ∃ L env ah, Rl P w K L env ah σ H ∧ ∃ d ah', f env ah = some (d, ah') ∧ ∀ L' v H', Go P w K L env ah H L' ah' H' → RD P w K L' d v → Q v H'
def TB (f : FB) : L2.TT := fun σ H Q => ∃ L env ah, Rl P w K L env ah σ H ∧ ∃ b ah', f env ah = some (b, ah') ∧ ∀ L' H', Go P w K L env ah H L' ah' H' → Q b H'
def TA (f : FA) : L2.TA := fun σ H Q => ∃ L env ah, Rl P w K L env ah σ H ∧ ∃ ds ah', f env ah = some (ds, ah') ∧ ∀ L' vs H', Go P w K L env ah H L' ah' H' → RDs P w K L' ds vs → Q vs H'
variable {P w K}
def vl (f : FE) : FV := fun env ah => (f env ah).bind fun p => p.1.val.map fun d => (d, p.2)

theorem weakE {X : Cx} {e : Expr} {t t' : L2.TE} (h : PE X e t) (hw : ∀ σ H Q, t' σ H Q → t σ H Q) : PE X e t' :=
  ⟨fun pins s σ H Q I q => h.run pins s σ H Q I (hw σ H Q q)⟩
theorem weakT {X : Cx} {e : Expr} {t t' : TT} (h : PT X e t) (hw : ∀ σ H Q, t' σ H Q → t σ H Q) : PT X e t' :=
  ⟨fun pins s σ H Q I q => h.run pins s σ H Q I (hw σ H Q q)⟩
theorem weakA {X : Cx} {e : List Expr} {t t' : L2.TA} (h : PA X e t) (hw : ∀ σ H Q, t' σ H Q → t σ H Q) : PA X e t' :=
  ⟨fun pos pins s σ H Q I q => h.run pos pins s σ H Q I (hw σ H Q q)⟩

/- an expression that computes f -/
abbrev DE (X : Cx) (e : Expr) (f : FE) : Prop := PE X e (TE X.prog X.w X.K f)
abbrev DV (X : Cx) (e : Expr) (f : FV) : Prop := PE X e (TV X.prog X.w X.K f)
abbrev DB (X : Cx) (e : Expr) (f : FB) : Prop := PT X e (TB X.prog X.w X.K f)
abbrev DA (X : Cx) (es : List Expr) (f : FA) : Prop := PA X es (TA X.prog X.w X.K f)

theorem de_vl {X : Cx} {e : Expr} {f : FE} (h : DE X e f) : DV X e (vl f) := by
  refine weakE h fun σ H Q ⟨L, env, ah, R, d, ah', e1, q⟩ => ?_
  unfold vl at e1
  cases e2 : f env ah with
  | none => rw [e2] at e1; cases e1
  | some p =>
    obtain ⟨r, ah1⟩ := p
    rw [e2] at e1
    simp only [Option.bind_some] at e1
    cases e3 : r.val with
    | none => rw [e3] at e1; cases e1
    | some d1 =>
      rw [e3] at e1
      simp only [Option.map_some, Option.some.injEq, Prod.mk.injEq] at e1
      obtain ⟨rfl, rfl⟩ := e1
      refine ⟨L, env, ah, R, r, ah1, e2, fun L' v H' g h => ?_⟩
      obtain ⟨L2, g2, h2⟩ := RW.val g h e3
      exact q L2 v H' g2 h2
def vv (f : FV) : FE := fun env ah => (f env ah).map fun p => (.v p.1, p.2)
theorem dv_de {X : Cx} {e : Expr} {f : FV} (h : DV X e f) : DE X e (vv f) := by
  refine weakE h fun σ H Q ⟨L, env, ah, R, r, ah', e1, q⟩ => ?_
  unfold vv at e1
  cases e2 : f env ah with
  | none => rw [e2] at e1; cases e1
  | some p =>
    rw [e2] at e1
    simp only [Option.map_some, Option.some.injEq, Prod.mk.injEq] at e1
    obtain ⟨rfl, rfl⟩ := e1
    exact ⟨L, env, ah, R, p.1, p.2, e2, fun L' v H' g h => q L' v H' g h⟩
end
end U

/-! U1t: tuples that are made are known to be plain ones. -/
namespace U
open PySem PySem.Spec PyProof.Rows L2
/- a plain new tuple at p -/
abbrev NT (Q : VK) (H : Hp) (xs : List V) : Prop := ∀ p o, H p = none → (o.dict = none ∧ o.slots = #[]) → Q (.ref p) (upd H p (.frz o (.tup xs)))
section
variable {X : Cx} {pins : List (Addr × Obj)} {σ : L2.St} {H : Hp} {s : Shared}
theorem laid_tup {xs : List V} {its : List Value} {tk : Nat} {Q : VK} (I : Inv X pins σ H s) (r : Vals xs its) (z : xs.length ≤ sizeLine) (q : NT Q H xs) :
    EP X pins σ Q (.ref s.heap.objs.size) { s with heap := s.heap.push { cls := .type "tuple", data := .seq its.toArray }, toks := tk } := by
  refine ⟨.ref s.heap.objs.size, upd H s.heap.objs.size (.frz { cls := .type "tuple", data := .seq its.toArray } (.tup xs)), ?_, rfl, q _ _ (I.hok.fresh (Nat.le_refl _)) ⟨rfl, rfl⟩⟩
  exact I.laid (t' := tk) (fun b u e => Heap.get?_push_of_some _ e) (Nat.le_refl _) ⟨Heap.get?_push_size _ rfl, z, its, r, ⟨_, Heap.get?_push_size _ rfl, rfl, _, rfl⟩⟩
variable {e : Expr} {es : List Expr} {t : L2.TA} {pos : Pos}
def tTupP (t : L2.TA) : L2.TE := fun σ H Q => t σ H fun xs H1 => xs.length ≤ sizeLine ∧ NT Q H1 xs
theorem pe_tupP {x1} (h : PA X es t) : PE X (.Tuple es x1 pos) (tTupP t) :=
  ⟨fun pins s σ H Q I hq => wpAny_Tuple_spliced (thn (h.run pos pins s σ H _ I hq) fun us s1 ⟨xs, H1, I1, r, z, q⟩ =>
    ⟨by rw [← r.length]; exact z, laid_tup (tk := s1.toks) I1 r z q⟩)⟩
/- t + u -/
def rCatP (K : PySem.W.Frag) : R2 := fun x y H Q => ∃ a b xs ys, x = .ref a ∧ y = .ref b ∧ SqT K H a xs ∧ SqT K H b ys ∧ xs.length + ys.length ≤ sizeLine ∧
  (xs = [] → Q (.ref b) H) ∧ (xs ≠ [] → ys = [] → Q (.ref a) H) ∧ (xs ≠ [] → ys ≠ [] → NT Q H (xs ++ ys))
theorem op_catP : OpR X (binaryOp .Add) (rCatP X.K) := by
  rintro pins s σ H x y v u Q I rx ry ⟨a, b, xs, ys, rfl, rfl, ha, hb, hz, q0, q1, q2⟩
  cases rx
  cases ry
  obtain ⟨its, r1, p1, _⟩ := I.tuple ha
  obtain ⟨its2, r2, p2, _⟩ := I.tuple hb
  by_cases hx : xs = []
  · subst hx
    cases r1
    exact cat_tup0 p1 p2 ⟨.ref b, H, I, rfl, q0 rfl⟩
  · refine HT.cat_tup p1 p2 (fun z => hx (r1.nil_iff.mp z)) (fun z => ⟨.ref a, H, I, rfl, q1 hx (r2.nil_iff.mp z)⟩) (fun z => ?_) (by rw [← r1.length, ← r2.length]; exact hz)
    exact laid_tup (tk := s.toks) I (r1.append r2) (by rw [List.length_append]; exact hz) (q2 hx fun w => z (r2.nil_iff.mpr w))
/- t[lo:hi] -/
def rSlP (K : PySem.W.Frag) : V → Option Int → Option Int → Hp → VK → Prop := fun x lo hi H Q => ∃ a xs, x = .ref a ∧ SqT K H a xs ∧
  (HT.sIx xs.length 0 lo = 0 ∧ HT.sIx xs.length xs.length hi = xs.length → Q (.ref a) H) ∧ NT Q H (cutV xs lo hi)
theorem sl_tupP : SlR X (rSlP X.K) := by
  rintro pins s σ H x v vl vu lo hi sl Q I rx hs pl pu ⟨a, xs, rfl, hx, q1, q2⟩
  cases rx
  obtain ⟨its, r, ht, hz⟩ := I.tuple hx
  have hlen : its.toArray.size = xs.length := by rw [List.size_toArray]; exact r.length.symm
  refine ⟨"tuple", _, PyProof.Rows.slot_tuple_getitem.lookup, ht.typeIs, ?_⟩
  by_cases hw : HT.sIx xs.length 0 lo = 0 ∧ HT.sIx xs.length xs.length hi = xs.length
  · exact getItem_tuple_whole ht hs pl pu (by rw [hlen]; exact hw) ⟨.ref a, H, I, rfl, q1 hw⟩
  · refine HT.getItem_tuple_cut ht hs pl pu (by rw [hlen]; exact hw) ?_ (by rw [hlen]; exact hz)
    rw [hlen]
    exact laid_tup (tk := s.toks) I ((r.drop (HT.sIx xs.length 0 lo)).take (HT.sIx xs.length xs.length hi - HT.sIx xs.length 0 lo)) (Nat.le_trans (cutV_length xs lo hi) hz) q2
/- tuple(list), tuple(tuple) -/
theorem call_tupleP : CallR X (.type "tuple") (fun xs H Q => ∃ p ys, xs = [.ref p] ∧ ((SqL X.K H p ys ∧ NT Q H ys) ∨ (SqT X.K H p ys ∧ Q (.ref p) H))) := by
  rintro pins s σ H xs us Q I r ⟨p, ys, rfl, h⟩
  obtain ⟨u, rfl, rx⟩ := vals1 r
  cases rx
  rcases h with ⟨hq, q⟩ | ⟨hq, q⟩
  · obtain ⟨its, r', pl, hz⟩ := I.list hq
    have hlen := r'.length
    refine call_tuple_list pl.isList (fun h' kp => ?_) (by simp only [List.size_toArray] <;> omega)
    exact laid_tup (s := { s with heap := h' }) (tk := s.toks) (I.kept (t' := s.toks) kp) r' hz q
  · obtain ⟨its, r', pl, hz⟩ := I.tuple hq
    exact call_tuple_same pl ⟨.ref p, H, I, rfl, q⟩
end
end U

/-! U2: operations on data, and what the machine does with the values. -/
namespace U
open PySem PySem.Spec PyProof.Rows L2

/-! ### plain data are data of the library -/
mutual
theorem plain_of_flat : ∀ (n : Nat) (d : D), flat n d = true → (toP d).plain = true ∧ (toP d).depth ≤ n
  | _, .non, _ => by simp [toP, PyData.plain, PyData.depth]
  | _, .bl _, _ => by simp [toP, PyData.plain, PyData.depth]
  | _, .int _, _ => by simp [toP, PyData.plain, PyData.depth]
  | _, .str _, _ => by simp [toP, PyData.plain, PyData.depth]
  | 0, .tup xs, h => by simp [flat] at h
  | 0, .lst xs, h => by simp [flat] at h
  | n + 1, .tup xs, h => by
    rw [flat] at h
    obtain ⟨h1, h2⟩ := plain_of_flats n xs h
    rw [toP, PyData.plain, PyData.depth]
    exact ⟨h1, Nat.succ_le_succ h2⟩
  | n + 1, .lst xs, h => by
    rw [flat] at h
    obtain ⟨h1, h2⟩ := plain_of_flats n xs h
    rw [toP, PyData.plain, PyData.depth]
    exact ⟨h1, Nat.succ_le_succ h2⟩
  | _, .dct _, h => by simp [flat] at h
  | _, .ref _, h => by simp [flat] at h
  | _, .scr _, h => by simp [flat] at h
  | _, .pr _, h => by simp [flat] at h
theorem plain_of_flats : ∀ (n : Nat) (ds : List D), flats n ds = true → PyData.plainAll (toPs ds) = true ∧ PyData.depthAll (toPs ds) ≤ n
  | n, [], _ => by simp [toPs, PyData.plainAll, PyData.depthAll]
  | n, d :: ds, h => by
    rw [flats, Bool.and_eq_true] at h
    obtain ⟨h1, h2⟩ := plain_of_flat n d h.1
    obtain ⟨h3, h4⟩ := plain_of_flats n ds h.2
    rw [toPs, PyData.plainAll, PyData.depthAll, h1, h3]
    exact ⟨rfl, Nat.max_le.mpr ⟨h2, h4⟩⟩
end
section
variable {P : Program} {w : World} {K : PySem.W.Frag} {L : Lay} {H : Hp}
mutual
theorem RD.dp (s : Same L.F H) : ∀ {n : Nat} {d : D} {x : V}, flat n d = true → RD P w K L d x → Dp K H x (toP d)
  | _, .non, _, _, h => by rw [RD] at h; subst h; rw [toP]; exact .non
  | _, .bl _, _, _, h => by rw [RD] at h; subst h; rw [toP]; exact .bl _
  | _, .int _, _, _, h => by rw [RD] at h; subst h; rw [toP]; exact .int _
  | _, .str _, _, _, h => by rw [RD] at h; subst h; rw [toP]; exact .str _
  | 0, .tup xs, _, hf, _ => by simp [flat] at hf
  | 0, .lst xs, _, hf, _ => by simp [flat] at hf
  | n + 1, .tup xs, _, hf, h => by
    rw [flat] at hf
    rw [RD] at h
    obtain ⟨a, vs, rfl, h1, h2⟩ := h
    rw [toP]
    exact .tup (sqT_same s h1) (RDs.dp s hf h2)
  | n + 1, .lst xs, _, hf, h => by
    rw [flat] at hf
    rw [RD] at h
    obtain ⟨a, vs, rfl, h1, h2⟩ := h
    rw [toP]
    exact .lst (SqL.of (s _ _ h1)) (RDs.dp s hf h2)
  | _, .dct _, _, hf, _ => by simp [flat] at hf
  | _, .ref _, _, hf, _ => by simp [flat] at hf
  | _, .scr _, _, hf, _ => by simp [flat] at hf
  | _, .pr _, _, hf, _ => by simp [flat] at hf
theorem RDs.dp (s : Same L.F H) : ∀ {n : Nat} {ds : List D} {xs : List V}, flats n ds = true → RDs P w K L ds xs → DpAll K H xs (toPs ds)
  | _, [], _, _, h => by rw [RDs] at h; subst h; rw [toPs]; exact .nil
  | n, d :: ds, _, hf, h => by
    rw [flats, Bool.and_eq_true] at hf
    rw [RDs] at h
    obtain ⟨v, r, rfl, h1, h2⟩ := h
    rw [toPs]
    exact .cons (RD.dp s hf.1 h1) (RDs.dp s hf.2 h2)
end
theorem RB.dp (s : Same L.F H) {n : Nat} {d : D} {x : V} (hf : flat n d = true) (h : RB P w K L H d x) : Dp K H x (toP d) := by
  cases d with
  | lst xs =>
    obtain ⟨a, vs, rfl, h1, h2⟩ := h
    cases n with
    | zero => simp [flat] at hf
    | succ n =>
      rw [flat] at hf
      rw [toP]
      exact .lst (SqL.of h1) (RDs.dp s hf h2)
  | dct _ => simp [flat] at hf
  | non => exact RD.dp (P := P) (w := w) s hf h
  | bl _ => exact RD.dp (P := P) (w := w) s hf h
  | int _ => exact RD.dp (P := P) (w := w) s hf h
  | str _ => exact RD.dp (P := P) (w := w) s hf h
  | tup _ => exact RD.dp (P := P) (w := w) s hf h
  | ref _ => exact RD.dp (P := P) (w := w) s hf h
  | scr _ => exact RD.dp (P := P) (w := w) s hf h
  | pr _ => exact RD.dp (P := P) (w := w) s hf h
end

/-! ### the rule of a two-place operation -/
abbrev O2 := D → D → Option Rw
def rOp (P : Program) (w : World) (K : PySem.W.Frag) (h : O2) : R2 := fun x y H Q => ∃ L env ah d1 d2 r, HR P w K L env ah H ∧ RB P w K L H d1 x ∧ RB P w K L H d2 y ∧ h d1 d2 = some r ∧
  ∀ L' z H', Go P w K L env ah H L' ah H' → RW P w K H L' env ah H' r z → Q z H'
section
variable {P : Program} {w : World} {K : PySem.W.Frag} {L : Lay} {env : Ev} {ah : AH} {H : Hp}
theorem fin_v {x : V} {d : D} {Q : VK} (hr : HR P w K L env ah H) (h : RD P w K L d x) (q : ∀ L' z H', Go P w K L env ah H L' ah H' → RW P w K H L' env ah H' (.v d) z → Q z H') : Q x H := q L x H (Go.refl hr) h
/- a fresh list, a fresh tuple -/
theorem fin_lst {ds : List D} {vs : List V} {Q : VK} (hr : HR P w K L env ah H) (h : RDs P w K L ds vs) (q : ∀ L' z H', Go P w K L env ah H L' ah H' → RW P w K H L' env ah H' (.f (.lst ds)) z → Q z H') :
    ∀ p, H p = none → Q (.ref p) (upd H p (.lst vs)) := fun p hp => by
  obtain ⟨hf, hl⟩ := hr.fresh hp
  exact q L _ _ (Go.beside hr hp) ⟨p, rfl, ⟨vs, upd_same, h⟩, hf, hl, hp⟩
theorem fin_tup {ds : List D} {vs : List V} {Q : VK} (hr : HR P w K L env ah H) (h : RDs P w K L ds vs) (q : ∀ L' z H', Go P w K L env ah H L' ah H' → RW P w K H L' env ah H' (.v (.tup ds)) z → Q z H') :
    NT Q H vs := fun p o hp ho => by
  obtain ⟨hf, hl⟩ := hr.fresh hp
  refine q _ _ _ (Go.newFrz hr hp) ?_
  show RD P w K (L.frz p (.frz o (.tup vs))) (.tup ds) (.ref p)
  rw [RD]
  exact ⟨p, vs, rfl, .inl ⟨o, upd_same, ho⟩, h.mono (le_frz hf)⟩
theorem RDs.append {ds es : List D} {vs us : List V} (h : RDs P w K L ds vs) (h' : RDs P w K L es us) : RDs P w K L (ds ++ es) (vs ++ us) := by
  induction ds generalizing vs with
  | nil => rw [RDs] at h; subst h; exact h'
  | cons d ds ih =>
    rw [RDs] at h
    obtain ⟨v, r, rfl, h1, h2⟩ := h
    rw [List.cons_append, List.cons_append, RDs]
    exact ⟨v, r ++ us, rfl, h1, ih h2⟩
theorem RDs.get {ds : List D} {vs : List V} (h : RDs P w K L ds vs) {i : Nat} {d : D} (e : ds[i]? = some d) : ∃ v, vs[i]? = some v ∧ RD P w K L d v := by
  induction ds generalizing vs i with
  | nil => simp at e
  | cons d' ds ih =>
    rw [RDs] at h
    obtain ⟨v, r, rfl, h1, h2⟩ := h
    cases i with
    | zero => simp at e; subst e; exact ⟨v, rfl, h1⟩
    | succ i => simp at e ⊢; exact ih h2 e
theorem RDs.getV {ds : List D} {vs : List V} (h : RDs P w K L ds vs) {i : Nat} {v : V} (e : vs[i]? = some v) : ∃ d, ds[i]? = some d ∧ RD P w K L d v := by
  induction ds generalizing vs i with
  | nil => rw [RDs] at h; subst h; simp at e
  | cons d' ds ih =>
    rw [RDs] at h
    obtain ⟨v', r, rfl, h1, h2⟩ := h
    cases i with
    | zero => simp at e; subst e; exact ⟨d', rfl, h1⟩
    | succ i => simp at e ⊢; exact ih h2 e
theorem RDs.take {ds : List D} {vs : List V} (h : RDs P w K L ds vs) (n : Nat) : RDs P w K L (ds.take n) (vs.take n) := by
  induction ds generalizing vs n with
  | nil => rw [RDs] at h; subst h; simp [RDs]
  | cons d ds ih =>
    rw [RDs] at h
    obtain ⟨v, r, rfl, h1, h2⟩ := h
    cases n with
    | zero => simp [RDs]
    | succ n => rw [List.take_succ_cons, List.take_succ_cons, RDs]; exact ⟨v, _, rfl, h1, ih h2 n⟩
theorem RDs.drop {ds : List D} {vs : List V} (h : RDs P w K L ds vs) (n : Nat) : RDs P w K L (ds.drop n) (vs.drop n) := by
  induction ds generalizing vs n with
  | nil => rw [RDs] at h; subst h; simp [RDs]
  | cons d ds ih =>
    cases n with
    | zero => exact h
    | succ n =>
      rw [RDs] at h
      obtain ⟨v, r, rfl, h1, h2⟩ := h
      exact ih h2 n
theorem RDs.rep {ds : List D} {vs : List V} (h : RDs P w K L ds vs) : ∀ k : Nat, RDs P w K L (List.replicate k ds).flatten (List.replicate k vs).flatten
  | 0 => by simp [RDs]
  | k + 1 => by
    rw [List.replicate_succ, List.replicate_succ, List.flatten_cons, List.flatten_cons]
    exact RDs.append h (RDs.rep h k)
theorem RDs.one {d : D} {v : V} (h : RD P w K L d v) : RDs P w K L [d] [v] := by rw [RDs]; exact ⟨v, [], rfl, h, by rw [RDs]⟩
theorem RDs.cons {d : D} {v : V} {ds : List D} {vs : List V} (h : RD P w K L d v) (h' : RDs P w K L ds vs) : RDs P w K L (d :: ds) (v :: vs) := by rw [RDs]; exact ⟨v, vs, rfl, h, h'⟩
theorem RDs.nil : RDs P w K L [] [] := by rw [RDs]
end

/-! ### + - * // % ** << & -/
def big : Nat := 1000000
theorem big_line : big ≤ sizeLine := by rw [sizeLine_eq]; decide
def addD : O2
  | .int i, .int j => some (.v (.int (i + j)))
  | .str x, .str y => if x.length + y.length ≤ big then some (.v (.str (x ++ y))) else none
  | .tup xs, .tup ys => if xs.length + ys.length ≤ big then some (.v (.tup (xs ++ ys))) else none
  | .lst xs, .lst ys => if xs.length + ys.length ≤ big then some (.f (.lst (xs ++ ys))) else none
  | _, _ => none
def subD : O2
  | .int i, .int j => some (.v (.int (i - j)))
  | _, _ => none
def mulD : O2
  | .int i, .int j => if (-(2 ^ 64) < i ∧ i < 2 ^ 64) ∨ (-(2 ^ 64) < j ∧ j < 2 ^ 64) then some (.v (.int (i * j))) else none
  | .lst xs, .int k => if -(2 ^ 62) ≤ k ∧ k < 2 ^ 62 ∧ xs.length * k.toNat ≤ big then some (.f (.lst (List.replicate k.toNat xs).flatten)) else none
  | _, _ => none
def fdivD : O2
  | .int i, .int j => if 0 < j ∧ j < 1073741824 then some (.v (.int (i / j))) else none
  | _, _ => none
def modD : O2
  | .int i, .int j => if 0 < j then some (.v (.int (i % j))) else none
  | _, _ => none
def powD : O2
  | .int i, .int j => if 0 ≤ j ∧ j ≤ 1000 ∧ i.natAbs < 2 ^ 64 then some (.v (.int (i ^ j.toNat))) else none
  | _, _ => none
def shlD : O2
  | .int i, .int j => if 0 ≤ j ∧ j ≤ 1000 ∧ i.natAbs < 2 ^ 64 then some (.v (.int (i * 2 ^ j.toNat))) else none
  | _, _ => none
def bandD : O2
  | .int i, .int j => some (.v (.int (Builtin.bitAnd i j)))
  | _, _ => none
def binD : Operator → O2
  | .Add => addD | .Sub => subD | .Mult => mulD | .FloorDiv => fdivD | .Mod => modD | .Pow => powD | .LShift => shlD | .BitAnd => bandD
  | _ => fun _ _ => none
section
variable {X : Cx}
theorem op_bin : ∀ op : Operator, OpR X (binaryOp op) (rOp X.prog X.w X.K (binD op)) := by
  intro op pins s σ H x y v u Q I rx ry ⟨L, env, ah, d1, d2, r, hr, b1, b2, e, q⟩
  have ii : ∀ {i j : Int}, RB X.prog X.w X.K L H (.int i) x → RB X.prog X.w X.K L H (.int j) y → x = .int i ∧ y = .int j := fun h1 h2 => ⟨h1, h2⟩
  have fi : ∀ i : Int, (∀ L' z H', Go X.prog X.w X.K L env ah H L' ah H' → RW X.prog X.w X.K H L' env ah H' (.v (.int i)) z → Q z H') → Q (.int i) H := fun i q => fin_v (x := .int i) hr (show RD X.prog X.w X.K L (.int i) (.int i) by rw [RD]) q
  cases op <;> simp only [binD] at e
  case Add =>
    cases d1 <;> cases d2 <;> simp only [addD, Option.some.injEq, Option.ite_none_right_eq_some] at e <;> try (cases e; done)
    · subst e
      obtain ⟨rfl, rfl⟩ := ii b1 b2
      exact op_add pins s σ H _ _ v u Q I rx ry ⟨_, _, rfl, rfl, fi _ q⟩
    · rename_i a b
      obtain ⟨hz, rfl⟩ := e
      obtain rfl : x = .str a := b1
      obtain rfl : y = .str b := b2
      exact op_add_str pins s σ H _ _ v u Q I rx ry ⟨_, _, rfl, rfl, Nat.le_trans hz big_line, fin_v hr (show RD X.prog X.w X.K L (.str (a ++ b)) (.str (a ++ b)) by rw [RD]) q⟩
    · rename_i xs ys
      obtain ⟨hz, rfl⟩ := e
      have b1 : RD X.prog X.w X.K L (.tup xs) x := b1
      have b2 : RD X.prog X.w X.K L (.tup ys) y := b2
      have B1 := b1
      have B2 := b2
      rw [RD] at b1 b2
      obtain ⟨a, vs, rfl, h1, h2⟩ := b1
      obtain ⟨b, us, rfl, h3, h4⟩ := b2
      have l1 := h2.length
      have l2 := h4.length
      refine op_catP pins s σ H _ _ v u Q I rx ry ⟨a, b, vs, us, rfl, rfl, sqT_same hr.sub h1, sqT_same hr.sub h3, by rw [← l1, ← l2]; exact Nat.le_trans hz big_line, fun e0 => ?_, fun _ e0 => ?_, fun _ _ => fin_tup hr (h2.append h4) q⟩
      · have : xs = [] := List.length_eq_zero_iff.mp (by rw [l1, e0]; rfl)
        subst this
        exact fin_v hr B2 q
      · have : ys = [] := List.length_eq_zero_iff.mp (by rw [l2, e0]; rfl)
        subst this
        rw [List.append_nil] at q
        exact fin_v hr B1 q
    · rename_i xs ys
      obtain ⟨hz, rfl⟩ := e
      obtain ⟨a, vs, rfl, h1, h2⟩ := b1
      obtain ⟨b, us, rfl, h3, h4⟩ := b2
      have l1 := h2.length
      have l2 := h4.length
      exact op_cat pins s σ H _ _ v u Q I rx ry ⟨a, b, vs, us, rfl, rfl, h1, h3, by rw [← l1, ← l2]; exact Nat.le_trans hz big_line, fin_lst hr (h2.append h4) q⟩
  case Sub =>
    cases d1 <;> cases d2 <;> simp only [subD, Option.some.injEq] at e <;> try (cases e; done)
    subst e
    obtain ⟨rfl, rfl⟩ := ii b1 b2
    exact op_sub pins s σ H _ _ v u Q I rx ry ⟨_, _, rfl, rfl, fi _ q⟩
  case Mult =>
    cases d1 <;> cases d2 <;> simp only [mulD, Option.some.injEq, Option.ite_none_right_eq_some] at e <;> try (cases e; done)
    · obtain ⟨hc, rfl⟩ := e
      obtain ⟨rfl, rfl⟩ := ii b1 b2
      exact op_mul pins s σ H _ _ v u Q I rx ry ⟨_, _, rfl, rfl, hc, fi _ q⟩
    · rename_i xs k
      obtain ⟨⟨h1, h2, h3⟩, rfl⟩ := e
      obtain ⟨a, vs, rfl, k1, k2⟩ := b1
      obtain rfl : y = .int k := b2
      have l1 := k2.length
      exact op_rep pins s σ H _ _ v u Q I rx ry ⟨a, k, vs, rfl, rfl, k1, by omega, by omega, by rw [← l1]; exact Nat.le_trans h3 big_line, fin_lst hr (RDs.rep k2 _) q⟩
  case FloorDiv =>
    cases d1 <;> cases d2 <;> simp only [fdivD, Option.some.injEq, Option.ite_none_right_eq_some] at e <;> try (cases e; done)
    obtain ⟨hc, rfl⟩ := e
    obtain ⟨rfl, rfl⟩ := ii b1 b2
    exact op_fdiv pins s σ H _ _ v u Q I rx ry ⟨_, _, rfl, rfl, hc, fi _ q⟩
  case Mod =>
    cases d1 <;> cases d2 <;> simp only [modD, Option.some.injEq, Option.ite_none_right_eq_some] at e <;> try (cases e; done)
    obtain ⟨hc, rfl⟩ := e
    obtain ⟨rfl, rfl⟩ := ii b1 b2
    exact op_mod pins s σ H _ _ v u Q I rx ry ⟨_, _, rfl, rfl, hc, fi _ q⟩
  case Pow =>
    cases d1 <;> cases d2 <;> simp only [powD, Option.some.injEq, Option.ite_none_right_eq_some] at e <;> try (cases e; done)
    obtain ⟨hc, rfl⟩ := e
    obtain ⟨rfl, rfl⟩ := ii b1 b2
    exact op_pow pins s σ H _ _ v u Q I rx ry ⟨_, _, rfl, rfl, ⟨hc.1, by omega, hc.2.2⟩, fi _ q⟩
  case LShift =>
    cases d1 <;> cases d2 <;> simp only [shlD, Option.some.injEq, Option.ite_none_right_eq_some] at e <;> try (cases e; done)
    obtain ⟨hc, rfl⟩ := e
    obtain ⟨rfl, rfl⟩ := ii b1 b2
    exact op_shl pins s σ H _ _ v u Q I rx ry ⟨_, _, rfl, rfl, ⟨hc.1, by omega, hc.2.2⟩, fi _ q⟩
  case BitAnd =>
    cases d1 <;> cases d2 <;> simp only [bandD, Option.some.injEq] at e <;> try (cases e; done)
    subst e
    obtain ⟨rfl, rfl⟩ := ii b1 b2
    exact op_and pins s σ H _ _ v u Q I rx ry ⟨_, _, rfl, rfl, fi _ q⟩
  all_goals (cases e)
end

/-! ### comparisons -/
def eqD (d e : D) : Option Bool := if flat 60 d && flat 60 e then some (PyData.eqv (toP d) (toP e)) else none
/- the keys of dicts -/
inductive KK where
  | k (x : Key) | n (x : NestedKey)
  deriving DecidableEq
def kk : D → Option KK
  | .int i => some (.k (.inl i))
  | .str x => some (.k (.inr x))
  | .tup xs => match nkey (.tup xs) with | some k => if k.depth ≤ 8 then some (.n k) else none | none => none
  | _ => none
def KK.isK : KK → Bool
  | .k _ => true
  | .n _ => false
def sameKind (kvs : List (D × D)) (u : KK) : Bool := kvs.all fun p => match kk p.1 with | some u' => u'.isK == u.isK | none => false
/- what stands at a key: none where this can't be said -/
def dfind (kvs : List (D × D)) (k : D) : Option (Option D) := match kk k with
  | some u => if sameKind kvs u then some ((kvs.find? fun p => decide (kk p.1 = some u)).map (·.2)) else none
  | none => none
def inD (x c : D) : Option Bool := match c with
  | .lst ys => if flat 60 x && flats 60 ys then some (ys.any fun y => PyData.eqv (toP y) (toP x)) else none
  | .tup ys => if flat 60 x && flats 60 ys then some (ys.any fun y => PyData.eqv (toP y) (toP x)) else none
  | .dct kvs => (dfind kvs x).map (·.isSome)
  | .str z => match x with
    | .str y => some (!(Builtin.Str.occurrences z y 0 z.length 1).isEmpty)
    | _ => none
  | _ => none
def ltD (d e : D) : Option Bool := match d, e with
  | .int i, .int j => some (decide (i < j))
  | .tup xs, .tup ys => if flat 60 (.tup xs) && flat 60 (.tup ys) && PySem.W.alike (toP (.tup xs)) (toP (.tup ys)) then some (PySem.W.dataLt (toP (.tup xs)) (toP (.tup ys))) else none
  | _, _ => none
def cmpD (op : CmpOp) (d e : D) : Option Bool := match op with
  | .Eq => eqD d e
  | .NotEq => (eqD d e).map (!·)
  | .In => inD d e
  | .NotIn => (inD d e).map (!·)
  | .Lt => ltD d e
  | .Gt => ltD e d
  | .LtE => (ltD e d).map (!·)
  | .GtE => (ltD d e).map (!·)
  | .Is => match e with | .non => some (match d with | .non => true | _ => false) | _ => none
  | .IsNot => match e with | .non => some (match d with | .non => false | _ => true) | _ => none
def ofB (b : Bool) : Rw := .v (.bl b)
end U

/-! U3: dicts. -/
namespace U
open PySem PySem.Spec PyProof.Rows L2

section
variable {X : Cx} {pins : List (Addr × Obj)} {σ : L2.St} {H : Hp} {s : Shared} {L : Lay}

mutual
theorem nested_is (I : Inv X pins σ H s) (e : Same L.F H) : ∀ {d : D} {v : V} {u : Value} {k : NestedKey}, RD X.prog X.w X.K L d v → nkey d = some k → RelV v u → NestedIs s.heap k u
  | .non, v, u, k, h, hk, r => by
    rw [RD] at h; subst h
    simp only [nkey, Option.some.injEq] at hk; subst hk
    cases r; exact .none
  | .bl b, v, u, k, h, hk, r => by
    rw [RD] at h; subst h
    simp only [nkey, Option.some.injEq] at hk; subst hk
    cases r; exact .bool rfl
  | .int i, v, u, k, h, hk, r => by
    rw [RD] at h; subst h
    simp only [nkey, Option.some.injEq] at hk; subst hk
    obtain ⟨t, rfl⟩ := r; exact .int _ _
  | .str x, v, u, k, h, hk, r => by
    rw [RD] at h; subst h
    simp only [nkey, Option.some.injEq] at hk; subst hk
    obtain ⟨t, rfl⟩ := r; exact .text _ _
  | .tup xs, v, u, k, h, hk, r => by
    rw [RD] at h
    obtain ⟨a, vs, rfl, h1, h2⟩ := h
    rw [nkey, Option.map_eq_some_iff] at hk
    obtain ⟨ks, hk, rfl⟩ := hk
    cases r
    obtain ⟨its, rv, p, _⟩ := I.tuple (sqT_same e h1)
    obtain ⟨o, ho, hc, n, hd⟩ := p
    exact .tup ho hc hd (by simpa using nested_all I e h2 hk rv)
  | .lst _, _, _, _, _, hk, _ => by simp [nkey] at hk
  | .dct _, _, _, _, _, hk, _ => by simp [nkey] at hk
  | .ref _, _, _, _, _, hk, _ => by simp [nkey] at hk
  | .scr _, _, _, _, _, hk, _ => by simp [nkey] at hk
  | .pr _, _, _, _, _, hk, _ => by simp [nkey] at hk
theorem nested_all (I : Inv X pins σ H s) (e : Same L.F H) : ∀ {ds : List D} {vs : List V} {us : List Value} {ks : List NestedKey}, RDs X.prog X.w X.K L ds vs → nkeys ds = some ks → Vals vs us → NestedAll s.heap ks us
  | [], vs, us, ks, h, hk, r => by
    rw [RDs] at h; subst h
    simp only [nkeys, Option.some.injEq] at hk; subst hk
    cases r; exact .nil
  | d :: ds, vs, us, ks, h, hk, r => by
    rw [RDs] at h
    obtain ⟨v, rr, rfl, h1, h2⟩ := h
    rw [nkeys] at hk
    split at hk
    · rename_i k ks' e1 e2
      cases hk
      cases r with
      | cons r1 r2 => exact .cons (nested_is I e h1 e1 r1) (nested_all I e h2 e2 r2)
    · cases hk
end

abbrev RH (P : Program) (w : World) (K : PySem.W.Frag) (L : Lay) : List (D × D) → List (NestedKey × Addr × Value) → Prop :=
  Paired fun p q => kk p.1 = some (.n q.1) ∧ RD P w K L p.1 (.ref q.2.1) ∧ ∃ v, RD P w K L p.2 v ∧ RelV v q.2.2
theorem kk_ref {P : Program} {w : World} {K : PySem.W.Frag} {L : Lay} {d : D} {a : Addr} {k : NestedKey} (h : RD P w K L d (.ref a)) (hk : nkey d = some k) (hd : k.depth ≤ 8) : kk d = some (.n k) := by
  cases d with
  | tup xs => simp [kk, hk, hd]
  | non => rw [RD] at h; cases h
  | bl _ => rw [RD] at h; cases h
  | int _ => rw [RD] at h; cases h
  | str _ => rw [RD] at h; cases h
  | lst _ => simp [nkey] at hk
  | dct _ => simp [nkey] at hk
  | ref _ => simp [nkey] at hk
  | scr _ => simp [nkey] at hk
  | pr _ => simp [nkey] at hk
theorem kk_n {d : D} {k : NestedKey} (h : kk d = some (.n k)) : nkey d = some k ∧ k.depth ≤ 8 ∧ ∃ xs, d = .tup xs := by
  cases d <;> simp only [kk] at h <;> try (cases h; done)
  split at h
  · split at h
    · rename_i h1 h2
      cases h
      exact ⟨h1, h2, _, rfl⟩
    · cases h
  · cases h
theorem kk_k {d : D} {k : Key} (h : kk d = some (.k k)) : d = keyD k := by
  cases d <;> simp only [kk] at h <;> try (cases h; done)
  · cases h; rfl
  · cases h; rfl
  · split at h
    · split at h <;> cases h
    · cases h
theorem kk_keyD (k : Key) : kk (keyD k) = some (.k k) := by cases k <;> rfl

theorem rh_of {kvs : List (D × D)} {es : List (NestedKey × Addr × V)} {ys : List (NestedKey × Addr × Value)} (h : RDh X.prog X.w X.K L kvs es)
    (p : Paired (fun (x : NestedKey × Addr × V) (y : NestedKey × Addr × Value) => x.1 = y.1 ∧ x.2.1 = y.2.1 ∧ RelV x.2.2 y.2.2) es ys) : RH X.prog X.w X.K L kvs ys := by
  induction kvs generalizing es ys with
  | nil => rw [RDh] at h; subst h; cases p; exact .nil
  | cons kv kvs ih =>
    obtain ⟨k, d⟩ := kv
    rw [RDh] at h
    obtain ⟨k', b, v, r, rfl, h1, h2, h3, h4, h5⟩ := h
    cases p with
    | cons p1 p2 =>
      obtain ⟨e1, e2, r1⟩ := p1
      refine .cons ⟨?_, ?_, v, h4, r1⟩ (ih h5 p2)
      · rw [← e1]; exact kk_ref h3 h1 h2
      · rw [← e2]; exact h3
theorem rh_is (I : Inv X pins σ H s) (e : Same L.F H) {kvs : List (D × D)} {ys : List (NestedKey × Addr × Value)} (h : RH X.prog X.w X.K L kvs ys) : ∀ x ∈ ys, (nestedKind X.prog X.w).is s.heap x.1 x.2.1 := by
  induction h with
  | nil => intro x hx; simp at hx
  | cons p q ih =>
    intro x hx
    rcases List.mem_cons.mp hx with rfl | hx
    · obtain ⟨h1, h2, _⟩ := p
      obtain ⟨k1, k2, _⟩ := kk_n h1
      exact ⟨nested_is I e h2 k1 rfl, k2⟩
    · exact ih x hx
theorem rdk_kinds {kvs : List (D × D)} {es : List (Key × V)} (h : RDk X.prog X.w X.K L kvs es) {k : NestedKey} (hs : sameKind kvs (.n k) = true) : kvs = [] ∧ es = [] := by
  cases kvs with
  | nil => rw [RDk] at h; exact ⟨rfl, h⟩
  | cons kv kvs =>
    obtain ⟨k1, d⟩ := kv
    rw [RDk] at h
    obtain ⟨k', v, r, rfl, rfl, _⟩ := h
    simp [sameKind, kk_keyD, KK.isK] at hs
theorem rdh_kinds {kvs : List (D × D)} {es : List (NestedKey × Addr × V)} (h : RDh X.prog X.w X.K L kvs es) {k : Key} (hs : sameKind kvs (.k k) = true) : es = [] := by
  cases kvs with
  | nil => rw [RDh] at h; exact h
  | cons kv kvs =>
    obtain ⟨k1, d⟩ := kv
    rw [RDh] at h
    obtain ⟨k', b, v, r, rfl, h1, h2, h3, _⟩ := h
    simp [sameKind, kk_ref h3 h1 h2, KK.isK] at hs
theorem fst_eq {es : List (NestedKey × Addr × V)} {ys : List (NestedKey × Addr × Value)} (h : Paired (fun (x : NestedKey × Addr × V) (y : NestedKey × Addr × Value) => x.1 = y.1 ∧ x.2.1 = y.2.1 ∧ RelV x.2.2 y.2.2) es ys) : es.map (·.1) = ys.map (·.1) := by
  induction h with
  | nil => rfl
  | cons p q ih => rw [List.map_cons, List.map_cons, p.1, ih]
/- a dict as one whose keys are tuples -/
theorem asH (I : Inv X pins σ H s) (e : Same L.F H) {kvs : List (D × D)} {a : Addr} {k : NestedKey} (h : RB X.prog X.w X.K L H (.dct kvs) (.ref a)) (hs : sameKind kvs (.n k) = true) :
    (a == sysModules) = false ∧ kvs.length ≤ sizeLine ∧ Mut (H a) ∧ ∃ xs, s.heap.DictOfH (nestedKind X.prog X.w) a xs ∧ RH X.prog X.w X.K L kvs xs := by
  obtain ⟨a', e', h⟩ := h
  cases e'
  rcases h with ⟨es, h1, h2⟩ | ⟨es, h1, h0, h2⟩
  · obtain ⟨rfl, rfl⟩ := rdk_kinds h2 hs
    obtain ⟨_, hd, vs, rel, dd⟩ := dk_of I.hok h1
    cases rel
    obtain ⟨o, es, ep, ho, hc, hdat, _, hp, _⟩ := dd
    refine ⟨hd, Nat.zero_le _, by rw [h1]; trivial, [], ⟨o, es, ep, ho, hc, hdat, ?_, (fun _ hx => nomatch hx), List.nodup_nil⟩, .nil⟩
    have := hp.length
    exact List.length_eq_zero_iff.mp (by simpa using this)
  · obtain ⟨⟨hd, hz, hn, ys, hp, o, es', ep, ho, hc, hdat, hes⟩, _⟩ := I.hok a _ h1
    have r := rh_of h2 hp
    have l1 := Paired.length r
    have l2 := Paired.length hp
    refine ⟨hd, by rw [l1, ← l2]; exact hz, by rw [h1]; trivial, ys, ⟨o, es', ep, ho, hc, hdat, hes, rh_is I e r, ?_⟩, r⟩
    rw [← fst_eq hp]
    exact hn
theorem asK {kvs : List (D × D)} {a : Addr} {k : Key} (h : RB X.prog X.w X.K L H (.dct kvs) (.ref a)) (hs : sameKind kvs (.k k) = true) : ∃ es, H a = some (.dK es) ∧ RDk X.prog X.w X.K L kvs es := by
  obtain ⟨a', e', h⟩ := h
  cases e'
  rcases h with ⟨es, h1, h2⟩ | ⟨es, h1, h0, h2⟩
  · exact ⟨es, h1, h2⟩
  · exact absurd (rdh_kinds h2 hs) h0

theorem find_k {kvs : List (D × D)} {es : List (Key × V)} (h : RDk X.prog X.w X.K L kvs es) (k : Key) :
    match (kvs.find? fun p => decide (kk p.1 = some (.k k))).map (·.2), valV es k with
    | some d, some v => RD X.prog X.w X.K L d v
    | none, none => True
    | _, _ => False := by
  induction kvs generalizing es with
  | nil => rw [RDk] at h; subst h; simp [valV]
  | cons kv kvs ih =>
    obtain ⟨k1, d⟩ := kv
    rw [RDk] at h
    obtain ⟨k', v, r, rfl, rfl, h1, h2⟩ := h
    by_cases e : k' = k
    · subst e
      rw [valV_pos rfl]
      simp [List.find?_cons, kk_keyD, h1]
    · rw [valV_neg e]
      have : decide (kk (keyD k') = some (.k k)) = false := by
        rw [kk_keyD]
        exact decide_eq_false fun z => e (by cases z; rfl)
      simp only [List.find?_cons, this]
      exact ih h2
theorem find_n {kvs : List (D × D)} {xs : List (NestedKey × Addr × Value)} (h : RH X.prog X.w X.K L kvs xs) (k : NestedKey) :
    match (kvs.find? fun p => decide (kk p.1 = some (.n k))).map (·.2), (atKey xs k).map (·.2) with
    | some d, some u => ∃ v, RD X.prog X.w X.K L d v ∧ RelV v u
    | none, none => True
    | _, _ => False := by
  induction h with
  | nil => simp [atKey]
  | @cons p q ps qs hp hq ih =>
    obtain ⟨h1, h2, v, h3, h4⟩ := hp
    by_cases e : q.1 = k
    · subst e
      simp only [atKey, List.find?_cons, h1, decide_true, Option.map_some]
      exact ⟨v, h3, h4⟩
    · have d1 : decide (kk p.1 = some (.n k)) = false := by
        rw [h1]
        exact decide_eq_false fun z => e (by cases z; rfl)
      have d2 : decide (q.1 = k) = false := decide_eq_false e
      simp only [atKey, List.find?_cons, d1, d2] at ih ⊢
      exact ih
/- the key's value -/
theorem key_val {k : Key} {y : V} (h : RD X.prog X.w X.K L (keyD k) y) : y = kV k := by
  cases k <;> (rw [keyD, RD] at h; exact h)
theorem key_tup {d : D} {k : NestedKey} {y : V} (hk : kk d = some (.n k)) (h : RD X.prog X.w X.K L d y) : ∃ b, y = .ref b := by
  obtain ⟨_, _, xs, rfl⟩ := kk_n hk
  rw [RD] at h
  obtain ⟨a, _, rfl, _⟩ := h
  exact ⟨a, rfl⟩
theorem rb_key {d : D} {u : KK} {y : V} (hk : kk d = some u) (h : RB X.prog X.w X.K L H d y) : RD X.prog X.w X.K L d y := by
  cases d <;> first | exact h | (simp [kk] at hk)

/- the two ways a dict answers a key -/
inductive Ask (X : Cx) (L : Lay) (H : Hp) (s : Shared) (a : Addr) (k : D) (y : V) (u : Value) (r : Option D) : Prop
  | k (key : Key) (es : List (Key × V)) : H a = some (.dK es) → y = kV key → (match r, valV es key with | some d, some v => RD X.prog X.w X.K L d v | none, none => True | _, _ => False) → Ask X L H s a k y u r
  | n (nk : NestedKey) (b : Addr) (xs : List (NestedKey × Addr × Value)) : y = .ref b → u = .ref b → (nestedKind X.prog X.w).is s.heap nk b → (a == sysModules) = false → s.heap.DictOfH (nestedKind X.prog X.w) a xs →
      (match r, (atKey xs nk).map (·.2) with | some d, some u => ∃ v, RD X.prog X.w X.K L d v ∧ RelV v u | none, none => True | _, _ => False) → Ask X L H s a k y u r
theorem ask {kvs : List (D × D)} {a : Addr} {k : D} {y : V} {u : Value} {r : Option D} (I : Inv X pins σ H s) (e : Same L.F H) (h : RB X.prog X.w X.K L H (.dct kvs) (.ref a))
    (hy : RD X.prog X.w X.K L k y) (ry : RelV y u) (hf : dfind kvs k = some r) : Ask X L H s a k y u r := by
  unfold dfind at hf
  split at hf
  · rename_i un hk
    split at hf
    · rename_i hs
      cases hf
      cases un with
      | k key =>
        obtain ⟨es, h1, h2⟩ := asK h hs
        obtain rfl := kk_k hk
        exact .k key es h1 (key_val hy) (find_k h2 key)
      | n nk =>
        obtain ⟨hd, hz, _, xs, hx, hh⟩ := asH I e h hs
        obtain ⟨b, rfl⟩ := key_tup hk hy
        cases ry
        obtain ⟨k1, k2, _⟩ := kk_n hk
        exact .n nk b xs rfl rfl ⟨nested_is I e hy k1 rfl, k2⟩ hd hx (find_n hh nk)
    · cases hf
  · cases hf
section
variable {A : Around} {E : Value → Shared → Prop} {Q : Value → Shared → Prop} {a : Addr} {k : D} {y : V} {u : Value} {r : Option D}
theorem dict_in (hu : A.units + 10 < cLine) (I : Inv X pins σ H s) (h : Ask X L H s a k y u r) (ry : RelV y u) (q : ∀ s', Inv X pins σ H s' → Q (.bool r.isSome) s') : wpAny (model X.prog X.w) A (compareOp .In u (.ref a)) Q E s := by
  rcases h with ⟨key, es, h1, rfl, h2⟩ | ⟨nk, b, xs, rfl, rfl, h1, hd, h2, h3⟩
  · refine d_in (by omega) I (DGet.k h1) ry fun s' I' => ?_
    have e1 : (valV es key).isSome = r.isSome := by
      split at h2 <;> first | (rename_i e1 e2; rw [e2]; rfl) | exact False.elim h2
    rw [e1]
    exact q s' I'
  · refine wpAny_in_heap (knd := nestedKind X.prog X.w) (by show A.units + 1 + 8 < cLine; omega) h1 hd h2 ?_
    have e1 : (atKey xs nk).isSome = r.isSome := by
      rw [← Option.isSome_map (f := (·.2))]
      split at h3 <;> first | (rename_i e1 e2; rw [e2]; rfl) | exact False.elim h3
    rw [e1]
    exact q _ (I.tok _)
theorem dict_notIn (hu : A.units + 10 < cLine) (I : Inv X pins σ H s) (h : Ask X L H s a k y u r) (ry : RelV y u) (q : ∀ s', Inv X pins σ H s' → Q (.bool (!r.isSome)) s') : wpAny (model X.prog X.w) A (compareOp .NotIn u (.ref a)) Q E s := by
  rcases h with ⟨key, es, h1, rfl, h2⟩ | ⟨nk, b, xs, rfl, rfl, h1, hd, h2, h3⟩
  · refine d_notIn (by omega) I (DGet.k h1) ry fun s' I' => ?_
    have e1 : (valV es key).isSome = r.isSome := by
      split at h2 <;> first | (rename_i e1 e2; rw [e2]; rfl) | exact False.elim h2
    rw [e1]
    exact q s' I'
  · refine notIn_keyed (knd := nestedKind X.prog X.w) (by show A.units + 1 + 8 < cLine; omega) h1 hd ⟨xs, h2, rfl⟩ ?_
    have e1 : (valueAt (pairsH xs) nk).isSome = r.isSome := by
      rw [valueAt_pairsH]
      split at h3 <;> first | (rename_i e1 e2; rw [e2]; rfl) | exact False.elim h3
    rw [e1]
    exact q _ (I.tok _)
theorem dict_item {d : D} (hu : A.units + 10 < cLine) (I : Inv X pins σ H s) (h : Ask X L H s a k y u (some d)) (ry : RelV y u) (q : ∀ v w' s', RD X.prog X.w X.K L d v → RelV v w' → Inv X pins σ H s' → Q w' s') : wpAny (model X.prog X.w) A (getItem (.ref a) u) Q E s := by
  rcases h with ⟨key, es, h1, rfl, h2⟩ | ⟨nk, b, xs, rfl, rfl, h1, hd, h2, h3⟩
  · cases e1 : valV es key with
    | none => rw [e1] at h2; exact False.elim h2
    | some v =>
      rw [e1] at h2
      have g : DGet H a (kV key) (some v) := by rw [← e1]; exact DGet.k h1
      exact d_getItem (by omega) I g ry fun w' s' I' r' => q v w' s' h2 r' I'
  · cases e1 : atKey xs nk with
    | none => rw [e1] at h3; exact False.elim h3
    | some p =>
      rw [e1] at h3
      obtain ⟨v, h4, h5⟩ := h3
      exact wpAny_getItem_heap (knd := nestedKind X.prog X.w) (by show A.units + 1 + 8 < cLine; omega) h1 h2 e1 (q v p.2 _ h4 h5 (I.tok _))
theorem dict_isDict (I : Inv X pins σ H s) (h : Ask X L H s a k y u r) : s.TypeIs (.ref a) "dict" := by
  rcases h with ⟨key, es, h1, rfl, h2⟩ | ⟨nk, b, xs, rfl, rfl, h1, hd, h2, h3⟩
  · obtain ⟨_, _, vs, _, dd⟩ := dk_of I.hok h1
    exact dd.typeIs
  · exact h2.typeIs
/- d.get(k), d.get(k, x) -/
theorem dict_get1 (hu : A.units + 10 < cLine) (I : Inv X pins σ H s) (h : Ask X L H s a k y u r) (ry : RelV y u) (q : ∀ v w' s', RD X.prog X.w X.K L (r.getD .non) v → RelV v w' → Inv X pins σ H s' → Q w' s') : wpAny (model X.prog X.w) A (call (.builtin "dict.get") [.ref a, u]) Q E s := by
  have n0 : RD X.prog X.w X.K L .non .non := by rw [RD]
  rcases h with ⟨key, es, h1, rfl, h2⟩ | ⟨nk, b, xs, rfl, rfl, h1, hd, h2, h3⟩
  · refine d_get1 (by omega) I (DGet.k h1) ry fun w' s' I' r' => ?_
    split at h2
    · rename_i e2
      rw [e2] at r'
      exact q _ w' s' h2 r' I'
    · rename_i e2
      rw [e2] at r'
      exact q _ w' s' n0 r' I'
    · exact False.elim h2
  · refine call_meetsIn PySem.F.slot_dict_get h2.typeIs PySem.F.entry_dict_get (PySem.F.args_dict_get_2 _ _) (meetsH_dict_get (nestedKind X.prog X.w) a b hd) ⟨by show A.units + 1 + 8 < cLine; omega, nk, xs, h1, h2, ?_⟩
    split at h3
    · rename_i e2
      rw [e2]
      obtain ⟨v, h4, h5⟩ := h3
      exact q v _ _ h4 h5 (I.tok _)
    · rename_i e2
      rw [e2]
      exact q _ _ _ n0 rfl (I.tok _)
    · exact False.elim h3
theorem dict_get2 {d : D} {z : V} {uz : Value} (hu : A.units + 10 < cLine) (I : Inv X pins σ H s) (h : Ask X L H s a k y u r) (ry : RelV y u) (hz : RD X.prog X.w X.K L d z) (rz : RelV z uz)
    (q : ∀ v w' s', RD X.prog X.w X.K L (r.getD d) v → RelV v w' → Inv X pins σ H s' → Q w' s') : wpAny (model X.prog X.w) A (call (.builtin "dict.get") [.ref a, u, uz]) Q E s := by
  rcases h with ⟨key, es, h1, rfl, h2⟩ | ⟨nk, b, xs, rfl, rfl, h1, hd, h2, h3⟩
  · refine d_get2 (by omega) I (DGet.k h1) ry rz fun w' s' I' r' => ?_
    split at h2
    · rename_i e2
      rw [e2] at r'
      exact q _ w' s' h2 r' I'
    · rename_i e2
      rw [e2] at r'
      exact q _ w' s' hz r' I'
    · exact False.elim h2
  · refine call_meetsIn PySem.F.slot_dict_get h2.typeIs PySem.F.entry_dict_get (PySem.F.args_dict_get_3 _ _ _) (meetsH_dict_get_default (nestedKind X.prog X.w) a b hd uz) ⟨by show A.units + 1 + 8 < cLine; omega, nk, xs, h1, h2, ?_⟩
    split at h3
    · rename_i e2
      rw [e2]
      obtain ⟨v, h4, h5⟩ := h3
      exact q v _ _ h4 h5 (I.tok _)
    · rename_i e2
      rw [e2]
      exact q _ _ _ hz rz (I.tok _)
    · exact False.elim h3
end

/-! ### d[k] = v -/
def putD (kvs : List (D × D)) (u : KK) (k v : D) : List (D × D) :=
  if (kvs.any fun p => decide (kk p.1 = some u)) then kvs.map fun p => if kk p.1 = some u then (p.1, v) else p else kvs ++ [(k, v)]
def dput (kvs : List (D × D)) (k v : D) : Option (List (D × D)) := match kk k with
  | some u => if sameKind kvs u && decide (kvs.length < big) then some (putD kvs u k v) else none
  | none => none
theorem rdk_map {kvs : List (D × D)} {es : List (Key × V)} {v : D} {z : V} {key : Key} (h2 : RDk X.prog X.w X.K L kvs es) (hv : RD X.prog X.w X.K L v z) :
    RDk X.prog X.w X.K L (kvs.map fun p => if kk p.1 = some (.k key) then (p.1, v) else p) (es.map fun kv => if kv.1 = key then (kv.1, z) else kv) := by
  induction kvs generalizing es with
  | nil => rw [RDk] at h2; subst h2; simp [RDk]
  | cons kv kvs ih =>
    obtain ⟨k1, d⟩ := kv
    rw [RDk] at h2
    obtain ⟨k', v', r, rfl, rfl, h3, h4⟩ := h2
    rw [List.map_cons, List.map_cons]
    by_cases e : k' = key
    · subst e
      rw [if_pos (kk_keyD _), if_pos rfl, RDk]
      exact ⟨k', z, _, rfl, rfl, hv, ih h4⟩
    · rw [if_neg (by rw [kk_keyD]; exact fun q => e (by cases q; rfl)), if_neg e, RDk]
      exact ⟨k', v', _, rfl, rfl, h3, ih h4⟩
theorem rdk_snoc {kvs : List (D × D)} {es : List (Key × V)} {v : D} {z : V} {key : Key} (h2 : RDk X.prog X.w X.K L kvs es) (hv : RD X.prog X.w X.K L v z) :
    RDk X.prog X.w X.K L (kvs ++ [(keyD key, v)]) (es ++ [(key, z)]) := by
  induction kvs generalizing es with
  | nil => rw [RDk] at h2; subst h2; rw [List.nil_append, List.nil_append, RDk]; exact ⟨key, z, [], rfl, rfl, hv, by rw [RDk]⟩
  | cons kv kvs ih =>
    obtain ⟨k1, d⟩ := kv
    rw [RDk] at h2
    obtain ⟨k', v', r, rfl, rfl, h3, h4⟩ := h2
    rw [List.cons_append, List.cons_append, RDk]
    exact ⟨k', v', _, rfl, rfl, h3, ih h4⟩
theorem rdk_any {kvs : List (D × D)} {es : List (Key × V)} (key : Key) (h2 : RDk X.prog X.w X.K L kvs es) : (kvs.any fun p => decide (kk p.1 = some (.k key))) = es.any fun kv => decide (kv.1 = key) := by
  induction kvs generalizing es with
  | nil => rw [RDk] at h2; subst h2; rfl
  | cons kv kvs ih =>
    obtain ⟨k1, d⟩ := kv
    rw [RDk] at h2
    obtain ⟨k', v', r, rfl, rfl, h3, h4⟩ := h2
    rw [List.any_cons, List.any_cons, ih h4, kk_keyD]
    congr 1
    by_cases e : k' = key
    · subst e; simp
    · rw [decide_eq_false e, decide_eq_false (fun q => e (by cases q; rfl))]
theorem rdk_put {kvs : List (D × D)} {es : List (Key × V)} {v : D} {z : V} {key : Key} (h2 : RDk X.prog X.w X.K L kvs es) (hv : RD X.prog X.w X.K L v z) :
    RDk X.prog X.w X.K L (putD kvs (.k key) (keyD key) v) (putK es key z) := by
  unfold putD putK
  rw [rdk_any key h2]
  split
  · exact rdk_map h2 hv
  · exact rdk_snoc h2 hv
theorem rdk_len {kvs : List (D × D)} {es : List (Key × V)} (h2 : RDk X.prog X.w X.K L kvs es) : kvs.length = es.length := by
  induction kvs generalizing es with
  | nil => rw [RDk] at h2; subst h2; rfl
  | cons kv kvs ih =>
    obtain ⟨k1, d⟩ := kv
    rw [RDk] at h2
    obtain ⟨k', v', r, rfl, rfl, h3, h4⟩ := h2
    rw [List.length_cons, List.length_cons, ih h4]
/- entries without tokens -/
theorem rh_back {kvs : List (D × D)} {xs : List (NestedKey × Addr × Value)} (h : RH X.prog X.w X.K L kvs xs) : ∃ es, RDh X.prog X.w X.K L kvs es ∧
    Paired (fun (x : NestedKey × Addr × V) (y : NestedKey × Addr × Value) => x.1 = y.1 ∧ x.2.1 = y.2.1 ∧ RelV x.2.2 y.2.2) es xs := by
  induction h with
  | nil => exact ⟨[], by rw [RDh], .nil⟩
  | @cons p q ps qs hp hq ih =>
    obtain ⟨es, h1, h2⟩ := ih
    obtain ⟨k1, k2, v, k3, k4⟩ := hp
    obtain ⟨n1, n2, _⟩ := kk_n k1
    obtain ⟨pk, pv⟩ := p
    refine ⟨(q.1, q.2.1, v) :: es, ?_, .cons ⟨rfl, rfl, k4⟩ h2⟩
    rw [RDh]
    exact ⟨q.1, q.2.1, v, es, rfl, n1, n2, k2, k3, h1⟩
theorem rh_put {kvs : List (D × D)} {xs : List (NestedKey × Addr × Value)} {k v : D} {z : V} {u : Value} {nk : NestedKey} {b : Addr} (h : RH X.prog X.w X.K L kvs xs) (hk : kk k = some (.n nk)) (hb : RD X.prog X.w X.K L k (.ref b)) (hv : RD X.prog X.w X.K L v z) (rz : RelV z u) :
    RH X.prog X.w X.K L (putD kvs (.n nk) k v) (storedH xs nk b u) := by
  have ha : (kvs.any fun p => decide (kk p.1 = some (.n nk))) = (atKey xs nk).isSome := by
    clear hb hv rz
    induction h with
    | nil => simp [atKey]
    | @cons p q ps qs hp hq ih =>
      rw [List.any_cons, ih, hp.1]
      by_cases e : q.1 = nk
      · subst e; simp [atKey, List.find?_cons]
      · have d2 : decide (q.1 = nk) = false := decide_eq_false e
        have d1 : decide (some (KK.n q.1) = some (.n nk)) = false := decide_eq_false fun z => e (by cases z; rfl)
        simp [atKey, List.find?_cons, d2, d1]
  unfold putD storedH
  rw [ha]
  split
  · rename_i hcond
    clear ha hcond
    induction h with
    | nil => exact .nil
    | @cons p q ps qs hp hq ih =>
      rw [List.map_cons, List.map_cons]
      refine .cons ?_ ih
      obtain ⟨h1, h2, v', h3, h4⟩ := hp
      by_cases e : q.1 = nk
      · subst e
        rw [if_pos h1, putAt, if_pos rfl]
        exact ⟨h1, h2, z, hv, rz⟩
      · rw [if_neg (by rw [h1]; exact fun q' => e (by cases q'; rfl)), putAt, if_neg e]
        exact ⟨h1, h2, v', h3, h4⟩
  · rename_i hcond
    clear ha hcond
    induction h with
    | nil => exact .cons ⟨hk, hb, z, hv, rz⟩ .nil
    | cons hp hq ih => exact .cons hp ih
/- the store itself: the cell at a is another one -/
theorem dict_put {A : Around} {E : Value → Shared → Prop} {Q : Unit → Shared → Prop} {kvs kvs' : List (D × D)} {a : Addr} {k v : D} {y z : V} {uy uz : Value} (hu : A.units + 10 < cLine) (I : Inv X pins σ H s) (e : Same L.F H) (h : Cel X.prog X.w X.K L H a (.dct kvs))
    (hy : RD X.prog X.w X.K L k y) (ry : RelV y uy) (hz : RD X.prog X.w X.K L v z) (rz : RelV z uz) (hp : dput kvs k v = some kvs') (q : ∀ o s', (∀ H', H' a = some o → Cel X.prog X.w X.K L H' a (.dct kvs')) → Inv X pins σ (upd H a o) s' → Q () s') :
    wpAny (model X.prog X.w) A (setItem (.ref a) uy uz) Q E s := by
  unfold dput at hp
  split at hp
  · rename_i un hk
    split at hp
    · rename_i hs
      rw [Bool.and_eq_true, decide_eq_true_eq] at hs
      cases hp
      have hbig := big_line
      cases un with
      | k key =>
        obtain ⟨es, h1, h2⟩ := asK (RB.cel h) hs.1
        obtain rfl := kk_k hk
        obtain rfl := key_val hy
        refine d_setItem (by omega) I (DPut.k (v := z) h1 (by rw [← rdk_len h2]; exact Nat.lt_of_lt_of_le hs.2 hbig)) ry rz fun s' I' => q _ s' (fun H' e => .inl ⟨_, e, rdk_put h2 hz⟩) I'
      | n nk =>
        obtain ⟨hd, _, hm, xs, hx, hh⟩ := asH I e (RB.cel h) hs.1
        obtain ⟨b, rfl⟩ := key_tup hk hy
        cases ry
        obtain ⟨k1, k2, _⟩ := kk_n hk
        have l1 := Paired.length hh
        refine wpAny_setItem_heap (knd := nestedKind X.prog X.w) (hsz := by rw [← l1]; omega) (by show A.units + 1 + 8 < cLine; omega) ⟨nested_is I e hy k1 rfl, k2⟩ hx fun h' hx' hsb => ?_
        have hr := rh_put hh hk hy hz rz
        obtain ⟨es, r1, r2⟩ := rh_back hr
        obtain ⟨o, es', ep, ho, hc, hdat, hes, _, hn⟩ := hx'
        have l3 := Paired.length r2
        have l4 : (storedH xs nk b uz).length ≤ xs.length + 1 := by
          unfold storedH
          split
          · rw [List.length_map]; omega
          · rw [List.length_append]; simp
        have ne : es ≠ [] := fun z => by
          subst z
          rw [List.length_nil] at l3
          have := List.length_eq_zero_iff.mp l3.symm
          unfold storedH at this
          split at this
          · rename_i hsome
            rw [List.map_eq_nil_iff] at this
            subst this
            simp [atKey] at hsome
          · simp at this
        refine q (.ext (dphi X.prog X.w a es)) _ (fun H' e => .inr ⟨es, e, ne, r1⟩) (d_write I hm hsb ⟨o, ho⟩ ⟨⟨hd, by rw [l3]; omega, by rw [fst_eq r2]; exact hn, _, r2, o, es', ep, ho, hc, hdat, hes⟩, ⟨o, ho⟩, ?_⟩)
        rintro g1 g2 ⟨p1, p2, p3, ys, p4, o', e1, e2, p5, p6⟩ hg
        exact ⟨p1, p2, p3, ys, p4, o', e1, e2, hg _ p5, p6⟩
    · cases hp
  · cases hp
end
end U

/-! U4: comparisons and subscripts by values. -/
namespace U
open PySem PySem.Spec PyProof.Rows L2
section
variable {X : Cx}
theorem rb_ref {P : Program} {w : World} {K : PySem.W.Frag} {L : Lay} {H : Hp} {kvs : List (D × D)} {x : V} (h : RB P w K L H (.dct kvs) x) : ∃ a, x = .ref a ∧ RB P w K L H (.dct kvs) (.ref a) := by
  obtain ⟨a, rfl, h'⟩ := id h
  exact ⟨a, rfl, h⟩
/- two data told -/
theorem reads2 {pins : List (Addr × Obj)} {s : Shared} {σ : L2.St} {H : Hp} {L : Lay} {d : D} {x : V} {v : Value} {n : Nat} (I : Inv X pins σ H s) (e : Same L.F H) (h : RB X.prog X.w X.K L H d x) (r : RelV x v) (hf : flat n d = true) : ∃ as, Reads s.heap v (toP d) as :=
  Dp.reads I _ _ _ (RB.dp e hf h) r
theorem rd_bl {P : Program} {w : World} {K : PySem.W.Frag} (L : Lay) (b : Bool) : RD P w K L (.bl b) (.bl b) := by rw [RD]
def cmpR (op : CmpOp) : O2 := fun d e => (cmpD op d e).map ofB
theorem fin_b {L : Lay} {env : Ev} {ah : AH} {H : Hp} {b : Bool} {Q : VK} {pins : List (Addr × Obj)} {σ : L2.St} {s : Shared} (I : Inv X pins σ H s) (hr : HR X.prog X.w X.K L env ah H)
    (q : ∀ L' z H', Go X.prog X.w X.K L env ah H L' ah H' → RW X.prog X.w X.K H L' env ah H' (ofB b) z → Q z H') : EP X pins σ Q (.bool b) s :=
  ⟨.bl b, H, I, rfl, q L _ H (Go.refl hr) (rd_bl (P := X.prog) (w := X.w) (K := X.K) L b)⟩
theorem op_eqU (hu : X.A.units + 100 < cLine) : OpR X (compareOp .Eq) (rOp X.prog X.w X.K (cmpR .Eq)) := by
  intro pins s σ H x y v u Q I rx ry ⟨L, env, ah, d1, d2, r, hr, b1, b2, e, q⟩
  simp only [cmpR, cmpD, eqD, Option.map_eq_some_iff, Option.ite_none_right_eq_some, Bool.and_eq_true, Option.some.injEq] at e
  obtain ⟨b, ⟨⟨f1, f2⟩, rfl⟩, rfl⟩ := e
  obtain ⟨as, r1⟩ := reads2 I hr.sub b1 rx f1
  obtain ⟨bs, r2⟩ := reads2 I hr.sub b2 ry f2
  obtain ⟨p1, m1⟩ := plain_of_flat _ _ f1
  obtain ⟨p2, m2⟩ := plain_of_flat _ _ f2
  refine SeqAt.eq_plain r1 r2 p1 p2 ?_ (fin_b I hr q)
  have := Nat.min_le_left (toP d1).depth (toP d2).depth
  omega
theorem op_neU (hu : X.A.units + 100 < cLine) : OpR X (compareOp .NotEq) (rOp X.prog X.w X.K (cmpR .NotEq)) := by
  intro pins s σ H x y v u Q I rx ry ⟨L, env, ah, d1, d2, r, hr, b1, b2, e, q⟩
  simp only [cmpR, cmpD, eqD, Option.map_eq_some_iff, Option.ite_none_right_eq_some, Bool.and_eq_true, Option.some.injEq] at e
  obtain ⟨b, ⟨b', ⟨⟨f1, f2⟩, rfl⟩, rfl⟩, rfl⟩ := e
  obtain ⟨as, r1⟩ := reads2 I hr.sub b1 rx f1
  obtain ⟨bs, r2⟩ := reads2 I hr.sub b2 ry f2
  obtain ⟨p1, m1⟩ := plain_of_flat _ _ f1
  obtain ⟨p2, m2⟩ := plain_of_flat _ _ f2
  refine SeqAt.ne_plain r1 r2 p1 p2 ?_ (fin_b I hr q)
  have := Nat.min_le_left (toP d1).depth (toP d2).depth
  omega
theorem op_inU (hu : X.A.units + 100 < cLine) : OpR X (compareOp .In) (rOp X.prog X.w X.K (cmpR .In)) := by
  intro pins s σ H x y v u Q I rx ry ⟨L, env, ah, d1, d2, r, hr, b1, b2, e, q⟩
  simp only [cmpR, cmpD, Option.map_eq_some_iff] at e
  obtain ⟨b, e, rfl⟩ := e
  cases d2 with
  | lst ys =>
    simp only [inD, Option.ite_none_right_eq_some, Bool.and_eq_true, Option.some.injEq] at e
    obtain ⟨⟨f1, f2⟩, rfl⟩ := e
    obtain ⟨as, r1⟩ := reads2 I hr.sub b1 rx f1
    obtain ⟨bs, r2⟩ := reads2 (n := 61) I hr.sub b2 ry (by rw [flat]; exact f2)
    obtain ⟨p1, m1⟩ := plain_of_flat _ _ f1
    obtain ⟨p2, m2⟩ := plain_of_flats _ _ f2
    rw [toP] at r2
    refine SeqAt.in_list_data r2 r1 p2 p1 ?_ ?_
    · have := Nat.min_le_right (PyData.depthAll (toPs ys)) (toP d1).depth
      omega
    · rw [toPs_eq, List.any_map]
      exact fin_b I hr q
  | tup ys =>
    simp only [inD, Option.ite_none_right_eq_some, Bool.and_eq_true, Option.some.injEq] at e
    obtain ⟨⟨f1, f2⟩, rfl⟩ := e
    obtain ⟨as, r1⟩ := reads2 I hr.sub b1 rx f1
    obtain ⟨bs, r2⟩ := reads2 (n := 61) I hr.sub b2 ry (by rw [flat]; exact f2)
    obtain ⟨p1, m1⟩ := plain_of_flat _ _ f1
    obtain ⟨p2, m2⟩ := plain_of_flats _ _ f2
    rw [toP] at r2
    refine SeqAt.in_tuple_data r2 r1 p2 p1 ?_ ?_
    · have := Nat.min_le_right (PyData.depthAll (toPs ys)) (toP d1).depth
      omega
    · rw [toPs_eq, List.any_map]
      exact fin_b I hr q
  | dct kvs =>
    simp only [inD, Option.map_eq_some_iff] at e
    obtain ⟨r, e, rfl⟩ := e
    obtain ⟨a, rfl, b2⟩ := rb_ref b2
    cases ry
    have hk : ∃ un, kk d1 = some un := by
      unfold dfind at e
      split at e
      · exact ⟨_, by assumption⟩
      · cases e
    obtain ⟨un, hk⟩ := hk
    exact dict_in (by omega) I (ask I hr.sub b2 (rb_key hk b1) rx e) rx fun s' I' => fin_b I' hr q
  | str z =>
    cases d1 <;> simp only [inD, Option.some.injEq] at e <;> try (cases e; done)
    rename_i y0
    subst e
    obtain rfl : x = .str y0 := b1
    obtain rfl : y = .str z := b2
    exact op_in_str pins s σ H _ _ v u Q I rx ry ⟨_, _, rfl, rfl, fin_v hr (rd_bl (P := X.prog) (w := X.w) (K := X.K) L _) q⟩
  | _ => simp [inD] at e
theorem op_notInU (hu : X.A.units + 100 < cLine) : OpR X (compareOp .NotIn) (rOp X.prog X.w X.K (cmpR .NotIn)) := by
  intro pins s σ H x y v u Q I rx ry ⟨L, env, ah, d1, d2, r, hr, b1, b2, e, q⟩
  simp only [cmpR, cmpD, Option.map_eq_some_iff] at e
  obtain ⟨b, ⟨b0, e, rfl⟩, rfl⟩ := e
  cases d2 with
  | lst ys =>
    simp only [inD, Option.ite_none_right_eq_some, Bool.and_eq_true, Option.some.injEq] at e
    obtain ⟨⟨f1, f2⟩, rfl⟩ := e
    obtain ⟨as, r1⟩ := reads2 I hr.sub b1 rx f1
    obtain ⟨bs, r2⟩ := reads2 (n := 61) I hr.sub b2 ry (by rw [flat]; exact f2)
    obtain ⟨p1, m1⟩ := plain_of_flat _ _ f1
    obtain ⟨p2, m2⟩ := plain_of_flats _ _ f2
    rw [toP] at r2
    refine SeqAt.notIn_list_data r2 r1 p2 p1 ?_ ?_
    · have := Nat.min_le_right (PyData.depthAll (toPs ys)) (toP d1).depth
      omega
    · rw [toPs_eq, List.any_map]
      exact fin_b I hr q
  | tup ys =>
    simp only [inD, Option.ite_none_right_eq_some, Bool.and_eq_true, Option.some.injEq] at e
    obtain ⟨⟨f1, f2⟩, rfl⟩ := e
    obtain ⟨as, r1⟩ := reads2 I hr.sub b1 rx f1
    obtain ⟨bs, r2⟩ := reads2 (n := 61) I hr.sub b2 ry (by rw [flat]; exact f2)
    obtain ⟨p1, m1⟩ := plain_of_flat _ _ f1
    obtain ⟨p2, m2⟩ := plain_of_flats _ _ f2
    rw [toP] at r2
    refine SeqAt.notIn_tuple_data r2 r1 p2 p1 ?_ ?_
    · have := Nat.min_le_right (PyData.depthAll (toPs ys)) (toP d1).depth
      omega
    · rw [toPs_eq, List.any_map]
      exact fin_b I hr q
  | dct kvs =>
    simp only [inD, Option.map_eq_some_iff] at e
    obtain ⟨r, e, rfl⟩ := e
    obtain ⟨a, rfl, b2⟩ := rb_ref b2
    cases ry
    have hk : ∃ un, kk d1 = some un := by
      unfold dfind at e
      split at e
      · exact ⟨_, by assumption⟩
      · cases e
    obtain ⟨un, hk⟩ := hk
    exact dict_notIn (by omega) I (ask I hr.sub b2 (rb_key hk b1) rx e) rx fun s' I' => fin_b I' hr q
  | str z =>
    cases d1 <;> simp only [inD, Option.some.injEq] at e <;> try (cases e; done)
    rename_i y0
    subst e
    obtain rfl : x = .str y0 := b1
    obtain rfl : y = .str z := b2
    exact op_notIn_str pins s σ H _ _ v u Q I rx ry ⟨_, _, rfl, rfl, fin_v hr (rd_bl (P := X.prog) (w := X.w) (K := X.K) L _) q⟩
  | _ => simp [inD] at e
/- the order -/
theorem op_ord {op : CmpOp} {g : Int → Int → Bool} {f : PyData → PyData → Bool} {h : D → D → Option Bool}
    (hi : OpR X (compareOp op) (rI0 fun i j => .bl (g i j)))
    (hd : ∀ {s : Shared} {a b : Value} {da db : PyData} {as bs : List Addr} {Q : Value → Shared → Prop}, Reads s.heap a da as → Reads s.heap b db bs → PySem.W.alike da db = true → da ≠ .none → X.A.units + min da.depth db.depth < cLine → Q (.bool (f da db)) s →
      wpAny (model X.prog X.w) X.A (compareOp op a b) Q X.xe s)
    (h1 : ∀ i j, h (.int i) (.int j) = some (g i j)) (h2 : ∀ xs ys b, h (.tup xs) (.tup ys) = some b → flat 60 (.tup xs) = true ∧ flat 60 (.tup ys) = true ∧ PySem.W.alike (toP (.tup xs)) (toP (.tup ys)) = true ∧ b = f (toP (.tup xs)) (toP (.tup ys)))
    (h3 : ∀ d e b, h d e = some b → (∃ i j, d = .int i ∧ e = .int j) ∨ ∃ xs ys, d = .tup xs ∧ e = .tup ys)
    (hu : X.A.units + 100 < cLine) : OpR X (compareOp op) (rOp X.prog X.w X.K fun d e => (h d e).map ofB) := by
  intro pins s σ H x y v u Q I rx ry ⟨L, env, ah, d1, d2, r, hr, b1, b2, e, q⟩
  rw [Option.map_eq_some_iff] at e
  obtain ⟨b, e, rfl⟩ := e
  rcases h3 _ _ _ e with ⟨i, j, rfl, rfl⟩ | ⟨xs, ys, rfl, rfl⟩
  · rw [h1] at e
    cases e
    obtain rfl : x = .int i := b1
    obtain rfl : y = .int j := b2
    exact hi pins s σ H _ _ v u Q I rx ry ⟨_, _, rfl, rfl, fin_v hr (rd_bl (P := X.prog) (w := X.w) (K := X.K) L _) q⟩
  · obtain ⟨f1, f2, al, rfl⟩ := h2 _ _ _ e
    obtain ⟨as, r1⟩ := reads2 I hr.sub b1 rx f1
    obtain ⟨bs, r2⟩ := reads2 I hr.sub b2 ry f2
    obtain ⟨p1, m1⟩ := plain_of_flat _ _ f1
    refine hd r1 r2 al (by rw [toP]; exact fun z => nomatch z) ?_ (fin_b I hr q)
    have := Nat.min_le_left (toP (.tup xs)).depth (toP (.tup ys)).depth
    omega
theorem ltD_cases {d e : D} {b : Bool} (h : ltD d e = some b) : (∃ i j, d = .int i ∧ e = .int j ∧ b = decide (i < j)) ∨ ∃ xs ys, d = .tup xs ∧ e = .tup ys ∧ flat 60 (.tup xs) = true ∧ flat 60 (.tup ys) = true ∧ PySem.W.alike (toP (.tup xs)) (toP (.tup ys)) = true ∧ b = PySem.W.dataLt (toP (.tup xs)) (toP (.tup ys)) := by
  cases d <;> cases e <;> simp only [ltD, Option.some.injEq, Option.ite_none_right_eq_some, Bool.and_eq_true] at h <;> try (cases h; done)
  · exact .inl ⟨_, _, rfl, rfl, h.symm⟩
  · obtain ⟨⟨⟨h1, h2⟩, h3⟩, h4⟩ := h
    exact .inr ⟨_, _, rfl, rfl, h1, h2, h3, h4.symm⟩
theorem op_cmp (hu : X.A.units + 100 < cLine) : ∀ op : CmpOp, OpR X (compareOp op) (rOp X.prog X.w X.K (cmpR op)) := by
  intro op
  cases op with
  | Eq => exact op_eqU hu
  | NotEq => exact op_neU hu
  | In => exact op_inU hu
  | NotIn => exact op_notInU hu
  | Lt =>
    refine op_ord (h := ltD) op_lt (f := PySem.W.dataLt) (fun r1 r2 al hn hu hq => PySem.W.lt_data r1 r2 al hn hu hq) (fun _ _ => rfl) (fun xs ys b h => ?_) (fun d e b h => ?_) hu
    · rcases ltD_cases h with ⟨_, _, e, _⟩ | ⟨_, _, e1, e2, h1, h2, h3, h4⟩
      · cases e
      · cases e1; cases e2; exact ⟨h1, h2, h3, h4⟩
    · rcases ltD_cases h with ⟨_, _, e1, e2, _⟩ | ⟨_, _, e1, e2, h1, h2, h3, h4⟩
      · exact .inl ⟨_, _, e1, e2⟩
      · exact .inr ⟨_, _, e1, e2⟩
  | Gt =>
    refine op_ord (h := fun d e => ltD e d) op_gt (f := fun da db => PySem.W.dataLt db da) (fun r1 r2 al hn hu hq => PySem.W.gt_data r1 r2 al hn hu hq) (fun _ _ => rfl) (fun xs ys b h => ?_) (fun d e b h => ?_) hu
    · rcases ltD_cases h with ⟨_, _, e, _⟩ | ⟨_, _, e1, e2, h1, h2, h3, h4⟩
      · cases e
      · cases e1; cases e2; exact ⟨h2, h1, by rw [PySem.W.alike_comm]; exact h3, h4⟩
    · rcases ltD_cases h with ⟨_, _, e1, e2, _⟩ | ⟨_, _, e1, e2, h1, h2, h3, h4⟩
      · exact .inl ⟨_, _, e2, e1⟩
      · exact .inr ⟨_, _, e2, e1⟩
  | LtE =>
    refine op_ord (h := fun d e => (ltD e d).map (!·)) op_le (f := fun da db => !PySem.W.dataLt db da) (fun r1 r2 al hn hu hq => PySem.W.le_data r1 r2 al hn hu hq) (fun i j => ?_) (fun xs ys b h => ?_) (fun d e b h => ?_) hu
    · simp only [ltD, Option.map_some, Option.some.injEq]
      by_cases h : i ≤ j
      · rw [decide_eq_true h, decide_eq_false (by omega)]; rfl
      · rw [decide_eq_false h, decide_eq_true (by omega)]; rfl
    · rw [Option.map_eq_some_iff] at h
      obtain ⟨b', h, rfl⟩ := h
      rcases ltD_cases h with ⟨_, _, e, _⟩ | ⟨_, _, e1, e2, h1, h2, h3, h4⟩
      · cases e
      · cases e1; cases e2; exact ⟨h2, h1, by rw [PySem.W.alike_comm]; exact h3, by rw [h4]⟩
    · rw [Option.map_eq_some_iff] at h
      obtain ⟨b', h, rfl⟩ := h
      rcases ltD_cases h with ⟨_, _, e1, e2, _⟩ | ⟨_, _, e1, e2, h1, h2, h3, h4⟩
      · exact .inl ⟨_, _, e2, e1⟩
      · exact .inr ⟨_, _, e2, e1⟩
  | GtE =>
    refine op_ord (h := fun d e => (ltD d e).map (!·)) op_ge (f := fun da db => !PySem.W.dataLt da db) (fun r1 r2 al hn hu hq => PySem.W.ge_data r1 r2 al hn hu hq) (fun i j => ?_) (fun xs ys b h => ?_) (fun d e b h => ?_) hu
    · simp only [ltD, Option.map_some, Option.some.injEq]
      by_cases h : j ≤ i
      · rw [decide_eq_true h, decide_eq_false (by omega)]; rfl
      · rw [decide_eq_false h, decide_eq_true (by omega)]; rfl
    · rw [Option.map_eq_some_iff] at h
      obtain ⟨b', h, rfl⟩ := h
      rcases ltD_cases h with ⟨_, _, e, _⟩ | ⟨_, _, e1, e2, h1, h2, h3, h4⟩
      · cases e
      · cases e1; cases e2; exact ⟨h1, h2, h3, by rw [h4]⟩
    · rw [Option.map_eq_some_iff] at h
      obtain ⟨b', h, rfl⟩ := h
      rcases ltD_cases h with ⟨_, _, e1, e2, _⟩ | ⟨_, _, e1, e2, h1, h2, h3, h4⟩
      · exact .inl ⟨_, _, e1, e2⟩
      · exact .inr ⟨_, _, e1, e2⟩
  | Is =>
    intro pins s σ H x y v u Q I rx ry ⟨L, env, ah, d1, d2, r, hr, b1, b2, e, q⟩
    simp only [cmpR, cmpD, Option.map_eq_some_iff] at e
    obtain ⟨b, e, rfl⟩ := e
    cases d2 <;> simp only [Option.some.injEq] at e <;> try (cases e; done)
    obtain rfl : y = .non := b2
    refine op_isN pins s σ H _ _ v u Q I rx ry ⟨rfl, ?_⟩
    have : decide (x = .non) = b := by
      subst e
      cases d1 with
      | non => obtain rfl : x = .non := b1; rfl
      | bl _ => obtain rfl : x = .bl _ := b1; rfl
      | int _ => obtain rfl : x = .int _ := b1; rfl
      | str _ => obtain rfl : x = .str _ := b1; rfl
      | tup _ => have b1 := b1; simp only [RB, RD] at b1; obtain ⟨a, _, rfl, _⟩ := b1; rfl
      | lst _ => obtain ⟨a, _, rfl, _⟩ := b1; rfl
      | dct _ => obtain ⟨a, rfl, _⟩ := b1; rfl
      | ref _ => have b1 := b1; simp only [RB, RD] at b1; obtain ⟨_, rfl⟩ := b1; rfl
      | scr _ => have b1 := b1; simp only [RB, RD] at b1; obtain ⟨a, _, rfl, _⟩ := b1; rfl
      | pr _ => have b1 := b1; simp only [RB, RD] at b1; obtain ⟨a, _, rfl, _⟩ := b1; rfl
    rw [this]
    exact fin_v hr (rd_bl (P := X.prog) (w := X.w) (K := X.K) L _) q
  | IsNot =>
    intro pins s σ H x y v u Q I rx ry ⟨L, env, ah, d1, d2, r, hr, b1, b2, e, q⟩
    simp only [cmpR, cmpD, Option.map_eq_some_iff] at e
    obtain ⟨b, e, rfl⟩ := e
    cases d2 <;> simp only [Option.some.injEq] at e <;> try (cases e; done)
    obtain rfl : y = .non := b2
    refine op_notN pins s σ H _ _ v u Q I rx ry ⟨rfl, ?_⟩
    have : (!decide (x = .non)) = b := by
      subst e
      cases d1 with
      | non => obtain rfl : x = .non := b1; rfl
      | bl _ => obtain rfl : x = .bl _ := b1; rfl
      | int _ => obtain rfl : x = .int _ := b1; rfl
      | str _ => obtain rfl : x = .str _ := b1; rfl
      | tup _ => have b1 := b1; simp only [RB, RD] at b1; obtain ⟨a, _, rfl, _⟩ := b1; rfl
      | lst _ => obtain ⟨a, _, rfl, _⟩ := b1; rfl
      | dct _ => obtain ⟨a, rfl, _⟩ := b1; rfl
      | ref _ => have b1 := b1; simp only [RB, RD] at b1; obtain ⟨_, rfl⟩ := b1; rfl
      | scr _ => have b1 := b1; simp only [RB, RD] at b1; obtain ⟨a, _, rfl, _⟩ := b1; rfl
      | pr _ => have b1 := b1; simp only [RB, RD] at b1; obtain ⟨a, _, rfl, _⟩ := b1; rfl
    rw [this]
    exact fin_v hr (rd_bl (P := X.prog) (w := X.w) (K := X.K) L _) q
end
end U

/-! U5: expressions. -/
namespace U
open PySem PySem.Spec PyProof.Rows L2

def sVar (i : Nat) : FE := fun env ah => match env[i]? with
  | some (Sl.va d) => some (.v d, ah)
  | some (Sl.ow _) => some (.o i, ah)
  | _ => none
def sCon (d : D) : FE := fun _ ah => some (.v d, ah)
def aNil : FA := fun _ ah => some ([], ah)
def aCons (f : FV) (g : FA) : FA := fun env ah => (f env ah).bind fun p => (g env p.2).bind fun q => some (p.1 :: q.1, q.2)
def sTup (f : FA) : FE := fun env ah => (f env ah).bind fun p => if p.1.length ≤ big then some (.v (.tup p.1), p.2) else none
def sLst (f : FA) : FE := fun env ah => (f env ah).bind fun p => if p.1.length ≤ big then some (.f (.lst p.1), p.2) else none
def sOp2 (h : O2) (f g : FE) : FE := fun env ah => (f env ah).bind fun p => (g env p.2).bind fun q => (p.1.rd env q.2).bind fun d => (q.1.rd env q.2).bind fun e => (h d e).map fun r => (r, q.2)
abbrev O1 := D → Option Rw
def sOp1 (h : O1) (f : FE) : FE := fun env ah => (f env ah).bind fun p => (p.1.rd env p.2).bind fun d => (h d).map fun r => (r, p.2)
def sB (f : FE) : FB := fun env ah => (f env ah).bind fun p => match p.1 with | .v (.bl b) => some (b, p.2) | _ => none
def bE (f : FB) : FE := fun env ah => (f env ah).map fun p => (ofB p.1, p.2)
def sIte (c : FB) (f g : FE) : FE := fun env ah => (c env ah).bind fun p => if p.1 then f env p.2 else g env p.2
def bAnd (f g : FB) : FB := fun env ah => (f env ah).bind fun p => if p.1 then g env p.2 else some (false, p.2)
def bOr (f g : FB) : FB := fun env ah => (f env ah).bind fun p => if p.1 then some (true, p.2) else g env p.2
def bNot (f : FB) : FB := fun env ah => (f env ah).map fun p => (!p.1, p.2)
/- and, or as values: all but the last are truth values -/
def sAnd (f : FB) (g : FE) : FE := fun env ah => (f env ah).bind fun p => if p.1 then g env p.2 else some (ofB false, p.2)
def sOr (f : FB) (g : FE) : FE := fun env ah => (f env ah).bind fun p => if p.1 then some (ofB true, p.2) else g env p.2
def sChn (h h' : D → D → Option Bool) (f g k : FE) : FE := fun env ah => (f env ah).bind fun p => (g env p.2).bind fun q => (p.1.rd env q.2).bind fun d => (q.1.rd env q.2).bind fun e => (h d e).bind fun b =>
  if b then (k env q.2).bind fun t => (q.1.rd env t.2).bind fun e' => (t.1.rd env t.2).bind fun d' => (h' e' d').map fun b' => (ofB b', t.2) else some (ofB false, q.2)

section
variable {P : Program} {w : World} {K : PySem.W.Frag} {f g k : FE} {fv : FV} {fa : FA} {fb gb : FB} {σ : L2.St} {H : Hp}
theorem te_op2 {h : O2} {Q : VK} (t : TE P w K (sOp2 h f g) σ H Q) : tOp (rOp P w K h) (TE P w K f) (TE P w K g) σ H Q := by
  obtain ⟨L, env, ah, R, r, ah', e, q⟩ := t
  simp only [sOp2, Option.bind_eq_some_iff, Option.map_eq_some_iff] at e
  obtain ⟨⟨r1, ah1⟩, e1, ⟨r2, ah2⟩, e2, d1, ed1, d2, ed2, r3, e3, e4⟩ := e
  cases e4
  refine ⟨L, env, ah, R, r1, ah1, e1, fun L1 x H1 g1 w1 => ⟨L1, env, ah1, R.go g1, r2, ah2, e2, fun L2 y H2 g2 w2 => ⟨L2, env, ah2, d1, d2, r, g2.hr, RW.rd g2.hr (w1.go g2) ed1, RW.rd g2.hr w2 ed2, e3, fun L3 z H3 g3 w3 => ?_⟩⟩⟩
  exact q L3 z H3 (g1.trans (g2.trans g3)) (RW.back R.hr (g1.trans g2) w3)
def rU (P : Program) (w : World) (K : PySem.W.Frag) (h : O1) : V → Hp → VK → Prop := fun x H Q => ∃ L env ah d r, HR P w K L env ah H ∧ RB P w K L H d x ∧ h d = some r ∧
  ∀ L' z H', Go P w K L env ah H L' ah H' → RW P w K H L' env ah H' r z → Q z H'
theorem te_op1 {h : O1} {Q : VK} (t : TE P w K (sOp1 h f) σ H Q) : tUn (rU P w K h) (TE P w K f) σ H Q := by
  obtain ⟨L, env, ah, R, r, ah', e, q⟩ := t
  simp only [sOp1, Option.bind_eq_some_iff, Option.map_eq_some_iff] at e
  obtain ⟨⟨r1, ah1⟩, e1, d1, ed1, r3, e3, e4⟩ := e
  cases e4
  refine ⟨L, env, ah, R, r1, ah1, e1, fun L1 x H1 g1 w1 => ⟨L1, env, ah1, d1, r, g1.hr, RW.rd g1.hr w1 ed1, e3, fun L3 z H3 g3 w3 => ?_⟩⟩
  exact q L3 z H3 (g1.trans g3) (RW.back R.hr g1 w3)
theorem te_b {Q : Bool → Hp → Prop} (t : TB P w K (sB f) σ H Q) : tTest (TE P w K f) σ H Q := by
  obtain ⟨L, env, ah, R, b, ah', e, q⟩ := t
  simp only [sB, Option.bind_eq_some_iff] at e
  obtain ⟨⟨r1, ah1⟩, e1, e2⟩ := e
  split at e2
  · rename_i b' e3
    cases e2
    obtain rfl : r1 = .v (.bl b) := e3
    refine ⟨L, env, ah, R, _, _, e1, fun L1 x H1 g1 w1 => ⟨b, ?_, q L1 H1 g1⟩⟩
    have w1 : RD P w K L1 (.bl b) x := w1
    rw [RD] at w1
    exact w1
  · cases e2
theorem ta_cons {Q : List V → Hp → Prop} (t : TA P w K (aCons fv fa) σ H Q) : tCons (TV P w K fv) (TA P w K fa) σ H Q := by
  obtain ⟨L, env, ah, R, ds, ah', e, q⟩ := t
  simp only [aCons, Option.bind_eq_some_iff, Option.some.injEq, Prod.mk.injEq] at e
  obtain ⟨⟨d1, ah1⟩, e1, ⟨ds2, ah2⟩, e2, rfl, rfl⟩ := e
  refine ⟨L, env, ah, R, d1, ah1, e1, fun L1 x H1 g1 w1 => ⟨L1, env, ah1, R.go g1, ds2, ah2, e2, fun L2 xs H2 g2 w2 => q L2 (x :: xs) H2 (g1.trans g2) (RDs.cons (w1.mono g2.stp.le) w2)⟩⟩
theorem ta_nil {Q : List V → Hp → Prop} (t : TA P w K aNil σ H Q) : tNil σ H Q := by
  obtain ⟨L, env, ah, R, ds, ah', e, q⟩ := t
  simp only [aNil, Option.some.injEq, Prod.mk.injEq] at e
  obtain ⟨rfl, rfl⟩ := e
  exact q L [] H (Go.refl R.hr) RDs.nil
theorem te_tup {Q : VK} (t : TE P w K (sTup fa) σ H Q) : tTupP (TA P w K fa) σ H Q := by
  obtain ⟨L, env, ah, R, r, ah', e, q⟩ := t
  simp only [sTup, Option.bind_eq_some_iff, Option.ite_none_right_eq_some, Option.some.injEq, Prod.mk.injEq] at e
  obtain ⟨⟨ds, ah1⟩, e1, hz, rfl, rfl⟩ := e
  refine ⟨L, env, ah, R, ds, ah1, e1, fun L1 xs H1 g1 w1 => ⟨by rw [← w1.length]; exact Nat.le_trans hz big_line, ?_⟩⟩
  exact fin_tup g1.hr w1 fun L2 z H2 g2 w2 => q L2 z H2 (g1.trans g2) w2
theorem te_lst {Q : VK} (t : TE P w K (sLst fa) σ H Q) : tLst (TA P w K fa) σ H Q := by
  obtain ⟨L, env, ah, R, r, ah', e, q⟩ := t
  simp only [sLst, Option.bind_eq_some_iff, Option.ite_none_right_eq_some, Option.some.injEq, Prod.mk.injEq] at e
  obtain ⟨⟨ds, ah1⟩, e1, hz, rfl, rfl⟩ := e
  refine ⟨L, env, ah, R, ds, ah1, e1, fun L1 xs H1 g1 w1 => ⟨by rw [← w1.length]; exact Nat.le_trans hz big_line, ?_⟩⟩
  exact fin_lst g1.hr w1 fun L2 z H2 g2 w2 => q L2 z H2 (g1.trans g2) (RW.back R.hr g1 w2)
theorem te_var {i : Nat} {Q : VK} (t : TE P w K (sVar i) σ H Q) : tVar i σ H Q := by
  obtain ⟨L, env, ah, R, r, ah', e, q⟩ := t
  unfold sVar at e
  split at e
  · rename_i d e1
    cases e
    obtain ⟨v, h1, h2⟩ := R.sr.val i d e1
    exact ⟨v, h1, q L v H (Go.refl R.hr) h2⟩
  · rename_i d e1
    cases e
    exact ⟨_, R.sr.own i d e1, q L _ H (Go.refl R.hr) ⟨rfl, d, e1⟩⟩
  · cases e
theorem te_con {d : D} {v : V} {Q : VK} (hd : ∀ L, RD P w K L d v) (t : TE P w K (sCon d) σ H Q) : tC v σ H Q := by
  obtain ⟨L, env, ah, R, r, ah', e, q⟩ := t
  cases e
  exact q L v H (Go.refl R.hr) (hd L)
theorem te_ite {Q : VK} (t : TE P w K (sIte fb f g) σ H Q) : tIf (TB P w K fb) (TE P w K f) (TE P w K g) σ H Q := by
  obtain ⟨L, env, ah, R, r, ah', e, q⟩ := t
  simp only [sIte, Option.bind_eq_some_iff] at e
  obtain ⟨⟨b, ah1⟩, e1, e2⟩ := e
  refine ⟨L, env, ah, R, b, ah1, e1, fun L1 H1 g1 => ?_⟩
  cases b with
  | true => exact ⟨L1, env, ah1, R.go g1, r, ah', e2, fun L2 v H2 g2 w2 => q L2 v H2 (g1.trans g2) (RW.back R.hr g1 w2)⟩
  | false => exact ⟨L1, env, ah1, R.go g1, r, ah', e2, fun L2 v H2 g2 w2 => q L2 v H2 (g1.trans g2) (RW.back R.hr g1 w2)⟩
theorem tb_and {Q : Bool → Hp → Prop} (t : TB P w K (bAnd fb gb) σ H Q) : tAnd (TB P w K fb) (TB P w K gb) σ H Q := by
  obtain ⟨L, env, ah, R, r, ah', e, q⟩ := t
  simp only [bAnd, Option.bind_eq_some_iff] at e
  obtain ⟨⟨b, ah1⟩, e1, e2⟩ := e
  refine ⟨L, env, ah, R, b, ah1, e1, fun L1 H1 g1 => ?_⟩
  cases b with
  | true => exact ⟨L1, env, ah1, R.go g1, r, ah', e2, fun L2 H2 g2 => q L2 H2 (g1.trans g2)⟩
  | false => cases e2; exact q L1 H1 g1
theorem tb_or {Q : Bool → Hp → Prop} (t : TB P w K (bOr fb gb) σ H Q) : tOr (TB P w K fb) (TB P w K gb) σ H Q := by
  obtain ⟨L, env, ah, R, r, ah', e, q⟩ := t
  simp only [bOr, Option.bind_eq_some_iff] at e
  obtain ⟨⟨b, ah1⟩, e1, e2⟩ := e
  refine ⟨L, env, ah, R, b, ah1, e1, fun L1 H1 g1 => ?_⟩
  cases b with
  | true => cases e2; exact q L1 H1 g1
  | false => exact ⟨L1, env, ah1, R.go g1, r, ah', e2, fun L2 H2 g2 => q L2 H2 (g1.trans g2)⟩
theorem tb_not {Q : Bool → Hp → Prop} (t : TB P w K (bNot fb) σ H Q) : tNot (TB P w K fb) σ H Q := by
  obtain ⟨L, env, ah, R, r, ah', e, q⟩ := t
  simp only [bNot, Option.map_eq_some_iff] at e
  obtain ⟨⟨b, ah1⟩, e1, e2⟩ := e
  cases e2
  exact ⟨L, env, ah, R, b, ah1, e1, fun L1 H1 g1 => q L1 H1 g1⟩
theorem te_chn {h h' : D → D → Option Bool} {Q : VK} (t : TE P w K (sChn h h' f g k) σ H Q) :
    tChain (rOp P w K fun d e => (h d e).map ofB) (rOp P w K fun d e => (h' d e).map ofB) (TE P w K f) (TE P w K g) (TE P w K k) σ H Q := by
  obtain ⟨L, env, ah, R, r, ah', e, q⟩ := t
  simp only [sChn, Option.bind_eq_some_iff] at e
  obtain ⟨⟨r1, ah1⟩, e1, ⟨r2, ah2⟩, e2, d1, ed1, d2, ed2, b, eb, e3⟩ := e
  refine ⟨L, env, ah, R, r1, ah1, e1, fun L1 x H1 g1 w1 => ⟨L1, env, ah1, R.go g1, r2, ah2, e2, fun L2 y H2 g2 w2 => ⟨L2, env, ah2, d1, d2, ofB b, g2.hr, RW.rd g2.hr (w1.go g2) ed1, RW.rd g2.hr w2 ed2, by show (h d1 d2).map ofB = _; rw [eb]; rfl, fun L3 z H3 g3 w3 => ?_⟩⟩⟩
  have w3 : RD P w K L3 (.bl b) z := w3
  rw [RD] at w3
  refine ⟨b, w3, ?_⟩
  cases b with
  | true =>
    simp only [if_true, Option.bind_eq_some_iff, Option.map_eq_some_iff] at e3
    obtain ⟨⟨r4, ah4⟩, e4, d4, ed4, d5, ed5, b', eb', e5⟩ := e3
    cases e5
    rw [if_pos rfl]
    refine ⟨L3, env, ah2, (R.go (g1.trans (g2.trans g3))), r4, ah4, e4, fun L4 z' H4 g4 w4 => ⟨L4, env, ah4, d4, d5, ofB b', g4.hr, RW.rd g4.hr ((w2.go g3).go g4) ed4, RW.rd g4.hr w4 ed5, by show (h' d4 d5).map ofB = _; rw [eb']; rfl, fun L5 z5 H5 g5 w5 => ?_⟩⟩
    exact q L5 z5 H5 (g1.trans (g2.trans (g3.trans (g4.trans g5)))) w5
  | false =>
    cases e3
    rw [if_neg Bool.false_ne_true]
    exact q L3 _ H3 (g1.trans (g2.trans g3)) (rd_bl (P := P) (w := w) (K := K) L3 false)
theorem te_sand {Q : VK} (t : TE P w K (sAnd fb g) σ H Q) : (fun σ H Q => (TE P w K (bE fb)) σ H fun x H1 => ∃ c, x = .bl c ∧ if c = true then TE P w K g σ H1 Q else Q (.bl false) H1) σ H Q := by
  obtain ⟨L, env, ah, R, r, ah', e, q⟩ := t
  simp only [sAnd, Option.bind_eq_some_iff] at e
  obtain ⟨⟨b, ah1⟩, e1, e2⟩ := e
  refine ⟨L, env, ah, R, ofB b, ah1, by simp [bE, e1], fun L1 x H1 g1 w1 => ?_⟩
  have w1 : RD P w K L1 (.bl b) x := w1
  rw [RD] at w1
  refine ⟨b, w1, ?_⟩
  cases b with
  | true => rw [if_pos rfl]; exact ⟨L1, env, ah1, R.go g1, r, ah', e2, fun L2 v H2 g2 w2 => q L2 v H2 (g1.trans g2) (RW.back R.hr g1 w2)⟩
  | false => rw [if_neg Bool.false_ne_true]; cases e2; exact q L1 _ H1 g1 (rd_bl (P := P) (w := w) (K := K) L1 false)
theorem te_sor {Q : VK} (t : TE P w K (sOr fb g) σ H Q) : (fun σ H Q => (TE P w K (bE fb)) σ H fun x H1 => ∃ c, x = .bl c ∧ if c = true then Q (.bl true) H1 else TE P w K g σ H1 Q) σ H Q := by
  obtain ⟨L, env, ah, R, r, ah', e, q⟩ := t
  simp only [sOr, Option.bind_eq_some_iff] at e
  obtain ⟨⟨b, ah1⟩, e1, e2⟩ := e
  refine ⟨L, env, ah, R, ofB b, ah1, by simp [bE, e1], fun L1 x H1 g1 w1 => ?_⟩
  have w1 : RD P w K L1 (.bl b) x := w1
  rw [RD] at w1
  refine ⟨b, w1, ?_⟩
  cases b with
  | false => rw [if_neg Bool.false_ne_true]; exact ⟨L1, env, ah1, R.go g1, r, ah', e2, fun L2 v H2 g2 w2 => q L2 v H2 (g1.trans g2) (RW.back R.hr g1 w2)⟩
  | true => rw [if_pos rfl]; cases e2; exact q L1 _ H1 g1 (rd_bl (P := P) (w := w) (K := K) L1 true)
end

/-! ### the rules -/
section
variable {X : Cx} {a b c e : Expr} {es : List Expr} {f g k : FE} {fv : FV} {fa : FA} {fb gb : FB} {pos : Pos}
theorem de_var {i : Nat} {x : Str} (hN : X.N[i]? = some x) (hv : Vis X.env.scope x) (hd : (x == ("__debug__" : Str)) = false) (hcd : (x == ("__classdict__" : Str)) = false) : DE X (.Name x pos) (sVar i) :=
  weakE (pe_var hN hv hd hcd) fun _ _ _ t => te_var t
theorem de_glb {x : Str} {d : D} {v : V} {u : Value} (hg : Gl X x) (hm : X.mg x = some u) (r : RelV v u) (hd : ∀ L, RD X.prog X.w X.K L d v) (hdb : (x == ("__debug__" : Str)) = false) : DE X (.Name x pos) (sCon d) :=
  weakE (pe_glob hg hm r hdb) fun _ _ _ t => te_con hd t
theorem de_int {i : Int} {j : Nat} : DE X (.Constant (.int i) j pos) (sCon (.int i)) := weakE pe_int fun _ _ _ t => te_con (fun L => by rw [RD]) t
theorem de_bl {i : Bool} {j : Nat} : DE X (.Constant (.bool i) j pos) (sCon (.bl i)) := weakE pe_bl fun _ _ _ t => te_con (fun L => by rw [RD]) t
theorem de_non {j : Nat} : DE X (.Constant .none j pos) (sCon .non) := weakE pe_non fun _ _ _ t => te_con (fun L => by rw [RD]) t
theorem de_str {i : Str} {j : Nat} : DE X (.Constant (.str i) j pos) (sCon (.str i)) := weakE pe_str fun _ _ _ t => te_con (fun L => by rw [RD]) t
theorem da_nil : DA X [] aNil := weakA pa_nil fun _ _ _ t => ta_nil t
theorem da_cons (ha : DV X e fv) (hr : DA X es fa) (hs : starEach (e :: es) X.env = (false, eval e X.env) :: starEach es X.env) : DA X (e :: es) (aCons fv fa) :=
  weakA (pa_cons ha hr hs) fun _ _ _ t => ta_cons t
theorem de_tup {x1} (h : DA X es fa) : DE X (.Tuple es x1 pos) (sTup fa) := weakE (pe_tupP h) fun _ _ _ t => te_tup t
theorem de_lst (h : DA X es fa) : DE X (.List es pos) (sLst fa) := weakE (pe_lst h) fun _ _ _ t => te_lst t
theorem de_bin {op : Operator} (ha : DE X a f) (hb : DE X b g) : DE X (.BinOp a op b pos) (sOp2 (binD op) f g) := weakE (pe_op (op_bin op) ha hb) fun _ _ _ t => te_op2 t
theorem de_cmp {op : CmpOp} (hu : X.A.units + 100 < cLine) (ha : DE X a f) (hb : DE X b g) (hm : behindInMarks op b = false) : DE X (.Compare a [op] [b] pos) (sOp2 (cmpR op) f g) :=
  weakE (pe_cmpR (op_cmp hu op) ha hb hm) fun _ _ _ t => te_op2 t
theorem db_cmp {op : CmpOp} (hu : X.A.units + 100 < cLine) (ha : DE X a f) (hb : DE X b g) (hm : behindInMarks op b = false) : DB X (.Compare a [op] [b] pos) (sB (sOp2 (cmpR op) f g)) := by
  refine weakT (pt_cmpR (op_cmp hu op) ha hb hm) fun σ H Q t => ?_
  obtain ⟨L, env, ah, R, r, ah', e1, q⟩ := te_b t
  exact te_op2 ⟨L, env, ah, R, r, ah', e1, q⟩
theorem de_chn {op op' : CmpOp} (hu : X.A.units + 100 < cLine) (ha : DE X a f) (hb : DE X b g) (hc : DE X c k) (hm : lastMarks [op, op'] [b, c] = false) : DE X (.Compare a [op, op'] [b, c] pos) (sChn (cmpD op) (cmpD op') f g k) :=
  weakE (pe_chain (op_cmp hu op) (op_cmp hu op') ha hb hc hm) fun _ _ _ t => te_chn t
theorem db_chn {op op' : CmpOp} (hu : X.A.units + 100 < cLine) (ha : DE X a f) (hb : DE X b g) (hc : DE X c k) (hm : lastMarks [op, op'] [b, c] = false) : DB X (.Compare a [op, op'] [b, c] pos) (sB (sChn (cmpD op) (cmpD op') f g k)) := by
  refine weakT (pt_chain (op_cmp hu op) (op_cmp hu op') ha hb hc hm) fun σ H Q t => ?_
  obtain ⟨L, env, ah, R, r, ah', e1, q⟩ := te_b t
  exact te_chn ⟨L, env, ah, R, r, ah', e1, q⟩
/- an expression that is no comparison, no and, or, not, no a if b else c: as a test -/
theorem db_val (h : DE X e f) (he : ∀ whole, isTrue e X.env whole = (do let v ← whole; standAt e.pos; holding [v] (truthy v))) : DB X e (sB f) :=
  weakT (pt_val h he) fun _ _ _ t => te_b t
theorem db_not (h : DB X a fb) : DB X (.UnaryOp .Not a pos) (bNot fb) := weakT (pt_not h) fun _ _ _ t => tb_not t
theorem de_ite (hc : DB X c fb) (ha : DE X a f) (hb : DE X b g) : DE X (.IfExp c a b pos) (sIte fb f g) := weakE (pe_ifExp hc ha hb) fun _ _ _ t => te_ite t
/- not as a value -/
theorem te_bE {P : Program} {w : World} {K : PySem.W.Frag} {σ : L2.St} {H : Hp} {Q : VK} (t : TE P w K (bE (bNot (sB f))) σ H Q) : tNotV (TE P w K f) σ H Q := by
  obtain ⟨L, env, ah, R, r, ah', e, q⟩ := t
  simp only [bE, bNot, sB, Option.map_eq_some_iff, Option.bind_eq_some_iff] at e
  obtain ⟨⟨b, ah1⟩, ⟨⟨b2, ah2⟩, ⟨⟨r3, ah3⟩, e1, e2⟩, e3⟩, e4⟩ := e
  split at e2
  · rename_i b5 e5
    cases e2
    cases e3
    cases e4
    obtain rfl : r3 = .v (.bl b2) := e5
    refine ⟨L, env, ah, R, _, _, e1, fun L1 x H1 g1 w1 => ?_⟩
    have w1 : RD P w K L1 (.bl b2) x := w1
    rw [RD] at w1
    exact ⟨b2, w1, q L1 _ H1 g1 (rd_bl (P := P) (w := w) (K := K) L1 _)⟩
  · cases e2
theorem de_not (h : DE X a f) : DE X (.UnaryOp .Not a pos) (bE (bNot (sB f))) := weakE (pe_not h) fun _ _ _ t => te_bE t
/- and, or -/
structure DW (X : Cx) (e : Expr) (f : FB) : Prop where
  w : PW X e (TB X.prog X.w X.K f)
theorem weakW {e : Expr} {t t' : TT} (h : PW X e t) (hw : ∀ σ H Q, t' σ H Q → t σ H Q) : PW X e t' :=
  ⟨fun whole pins s σ H Q I q => h.run whole pins s σ H Q I (hw σ H Q q)⟩
theorem dw_one {op : BoolOp} (h : DB X a fb) : DW X (.BoolOp op [a] pos) fb := by
  cases op with
  | And => exact ⟨pw_and1 h⟩
  | Or => exact ⟨pw_or1 h⟩
theorem dw_and (ha : DB X a fb) (hb : DW X (.BoolOp .And (b :: es) pos) gb) : DW X (.BoolOp .And (a :: b :: es) pos) (bAnd fb gb) := ⟨weakW (pw_and ha hb.w) fun _ _ _ t => tb_and t⟩
theorem dw_or (ha : DB X a fb) (hb : DW X (.BoolOp .Or (b :: es) pos) gb) : DW X (.BoolOp .Or (a :: b :: es) pos) (bOr fb gb) := ⟨weakW (pw_or ha hb.w) fun _ _ _ t => tb_or t⟩
theorem dw_db (h : DW X e fb) : DB X e fb := h.w.pt
theorem de_bop1 {op : BoolOp} (h : DE X a f) : DE X (.BoolOp op [a] pos) f := pe_one h
theorem de_and (ha : DE X a f) (hb : DE X (.BoolOp .And (b :: es) pos) g) : DE X (.BoolOp .And (a :: b :: es) pos) (sAnd (sB f) g) :=
  weakE (pe_and ha hb) fun σ H Q t => by
    obtain ⟨L, env, ah, R, r, ah', e, q⟩ := te_sand t
    simp only [bE, Option.map_eq_some_iff] at e
    obtain ⟨⟨b1, ah1⟩, e1, e2⟩ := e
    cases e2
    simp only [sB, Option.bind_eq_some_iff] at e1
    obtain ⟨⟨r1, ah1⟩, e1, e2⟩ := e1
    split at e2
    · rename_i b' e3
      cases e2
      obtain rfl : r1 = .v (.bl b1) := e3
      exact ⟨L, env, ah, R, _, _, e1, q⟩
    · cases e2
theorem de_or (ha : DE X a f) (hb : DE X (.BoolOp .Or (b :: es) pos) g) : DE X (.BoolOp .Or (a :: b :: es) pos) (sOr (sB f) g) :=
  weakE (pe_or ha hb) fun σ H Q t => by
    obtain ⟨L, env, ah, R, r, ah', e, q⟩ := te_sor t
    simp only [bE, Option.map_eq_some_iff] at e
    obtain ⟨⟨b1, ah1⟩, e1, e2⟩ := e
    cases e2
    simp only [sB, Option.bind_eq_some_iff] at e1
    obtain ⟨⟨r1, ah1⟩, e1, e2⟩ := e1
    split at e2
    · rename_i b' e3
      cases e2
      obtain rfl : r1 = .v (.bl b1) := e3
      exact ⟨L, env, ah, R, _, _, e1, q⟩
    · cases e2
end
end U
/-! Us: sorting alike tuples, empty ones among them. -/
namespace U
open PySem PySem.Spec PyProof.Rows PySem.W PySem.Calls
section
variable {prog : Program} {w : World} {A : Around} {s : Shared}
theorem us_general (x y : Value) : keyLt' general' x y = oneLt' false x y := rfl
theorem us_call_tuple_lt {E : Value → Shared → Prop} {Q : Value → Shared → Prop} {l b : Addr} {items items2 : Array Value} {e r : Nat → Bool} (hl : s.heap.IsTuple l items) (hb : s.heap.IsTuple b items2)
    (he : ∀ j (h1 : j < items.size) (h2 : j < items2.size), SeqAt.EqAt A.in1 s items[j] items2[j] (e j)) (hr : ∀ j (h1 : j < items.size) (h2 : j < items2.size), e j = false → SeqAt.RcLt A.in1 s items[j] items2[j] (r j))
    (h : Q (.bool (SeqAt.firstLt e r (decide (items.size < items2.size)) (List.range (min items.size items2.size)))) s) : wpAny (model prog w) A (call (.builtin "tuple.__lt__") [.ref l, .ref b]) Q E s := by
  obtain ⟨⟨cls, dd, data, sl⟩, ho, hc, n, hd⟩ := id hl
  obtain ⟨⟨cls2, dd2, data2, sl2⟩, ho2, hc2, n2, hd2⟩ := id hb
  simp only at hc hd hc2 hd2
  subst hc hd hc2 hd2
  exact call_meets F.slot_tuple_lt ⟨_, ho, rfl⟩ F.entry_tuple_lt (F.args_tuple_lt_2 _ _) (SeqAt.tuple_ltAt l b items items2 n n2 dd dd2 sl sl2 e r) ⟨ho, ho2, he, hr, h⟩
/- both told to be tuples: the type's own < -/
theorem us_one_tuples {E : Value → Shared → Prop} {xs ys : List PyData} {a b : Value} {as bs : List Addr} {Q : Bool → Shared → Prop} (ra : Reads s.heap a (.tuple xs) as) (rb : Reads s.heap b (.tuple ys) bs) (h : alike (.tuple xs) (.tuple ys) = true)
    (hu : A.units + min (PyData.tuple xs).depth (PyData.tuple ys).depth < cLine) (hq : Q (dataLt (.tuple xs) (.tuple ys)) s) : wpAny (model prog w) A (oneLt' true a b) Q E s := by
  have hal : alikeAll xs ys = true := by simpa [alike] using h
  cases ra with
  | @tuple l o vs n _ as₁ h1 h2 h3 h4 =>
    cases rb with
    | @tuple l' o' vs' n' _ bs₁ k1 k2 k3 k4 =>
      have n1 : vs.size = xs.length := by simpa using SeqAt.ReadsAll.length _ _ _ h4
      have n2 : vs'.size = ys.length := by simpa using SeqAt.ReadsAll.length _ _ _ k4
      rw [dataLt_tuple, ← firstLt_toks xs ys hal, ← n1, ← n2] at hq
      rw [oneLt'_eq]
      simp only [if_true]
      refine wpAny_bind (wpAny_cRoomFor (SeqAt.room_here hu) ?_)
      refine wpAny_bind (wpAny_callSpecialIfBound?_slot (T := "tuple") ⟨_, h1, h2⟩ F.slot_tuple_lt (us_call_tuple_lt (e := SeqAt.pairEq xs ys) (r := fun j => dataLt (xs.getD j .none) (ys.getD j .none)) ⟨_, h1, h2, _, h3⟩ ⟨_, k1, k2, _, k3⟩ (fun j j1 j2 => ?_) (fun j j1 j2 hj => ?_) ?_))
      · have := eqAt_alikeAll xs ys A.in1 s vs.toList vs'.toList _ _ h4 k4 hal (SeqAt.room_in hu) j (by simpa using j1) (by simpa using j2)
        simpa using this
      · have := rcLt_alikeAll xs ys A.in1 s vs.toList vs'.toList _ _ h4 k4 hal (SeqAt.room_in hu) j (by simpa using j1) (by simpa using j2) hj
        simpa using this
      · exact wpAny_truthy_bool hq
/- the first item of each -/
def UsTups (h : Heap) : List Value → List (Option Value) → Prop
  | [], [] => True
  | v :: vs, f :: fs => (∃ a o xs n, v = .ref a ∧ h.get? a = some o ∧ o.cls = .type "tuple" ∧ o.data = .seq xs n ∧ xs[0]? = f) ∧ UsTups h vs fs
  | _, _ => False
theorem us_firsts {M : Model} {E : Value → Shared → Prop} : ∀ (vs : List Value) (fs : List (Option Value)) {Q : List (Option Value) → Shared → Prop}, UsTups s.heap vs fs → Q fs s → wpAny M A (vs.mapM firstOfTuple') Q E s
  | [], [], _, _, h => by rw [List.mapM_nil]; exact wpAny_pure h
  | [], _ :: _, _, t, _ => t.elim
  | _ :: _, [], _, t, _ => t.elim
  | v :: vs, f :: fs, Q, t, h => by
    obtain ⟨⟨a, o, xs, n, rfl, ho, hc, hd, hf⟩, t⟩ := t
    rw [List.mapM_cons]
    refine wpAny_bind ?_
    rw [kas_first_eq]
    refine wpAny_bind (Looks.here (show Looks M s.heap (typeOf (.ref a)) o.cls from (Looks.ld ho).andThen .now) ?_)
    rw [hc, if_neg (by first | decide | simp)]
    refine wpAny_bind (listItems_at ho hd (wpAny_pure ?_))
    rw [hf]
    exact wpAny_bind (us_firsts vs fs (Q := fun bs s' => wpAny M A (pure (f :: bs)) Q E s') t (wpAny_pure h))
theorem us_tups {h : Heap} : ∀ {vs : List Value} {ds : List PyData}, EachIs (fun v d => ∃ as, Reads h v d as) vs ds → (∀ d, d ∈ ds → ∃ xs, d = .tuple xs) → ∃ fs, UsTups h vs fs ∧ fs.length = vs.length ∧ fs.map (·.isSome) = ds.map (fun d => match d with | .tuple (_ :: _) => true | _ => false)
  | _, _, .nil, _ => ⟨[], trivial, rfl, rfl⟩
  | _, _, .cons (b := d) ⟨as, r⟩ t, ht => by
    obtain ⟨fs, h1, h2, h3⟩ := us_tups t fun d hd => ht d (List.mem_cons_of_mem _ hd)
    obtain ⟨xs, rfl⟩ := ht d (List.mem_cons_self ..)
    cases r with
    | @tuple a o vs n _ _ ho hc hd hr =>
      refine ⟨vs[0]? :: fs, ⟨⟨a, o, vs, n, rfl, ho, hc, hd, rfl⟩, h1⟩, by rw [List.length_cons, List.length_cons, h2], ?_⟩
      rw [List.map_cons, List.map_cons, h3]
      congr 1
      have hl := SeqAt.ReadsAll.length _ _ _ hr
      cases xs with
      | nil =>
        have : vs.size = 0 := by simpa using hl
        simp [this]
      | cons x xs =>
        have : vs.size = xs.length + 1 := by simpa using hl
        simp [this]
def usKd (fs : List (Option Value)) : SortKind := if (fs.toArray[0]?.bind id).isSome then general' else oneType'
theorem usKd_or (fs : List (Option Value)) : usKd fs = general' ∨ usKd fs = oneType' := by unfold usKd; split <;> simp
theorem us_kind {M : Model} {E : Value → Shared → Prop} {vs : List Value} {fs : List (Option Value)} {Q : SortKind → Shared → Prop} (t : UsTups s.heap vs fs) (h2 : 2 ≤ vs.length) (hl : fs.length = vs.length) (hT : ∀ v ∈ vs, Looks M s.heap (typeOf v) (.type "tuple"))
    (hn : fs.all (·.isSome) = false) (h : Q (usKd fs) s) : wpAny M A (keyKind' vs.toArray) Q E s := by
  rw [keyKind'_eq, List.mapM_toArray, map_eq_pure_bind]
  refine wpAny_bind (wpAny_bind (us_firsts vs fs t (wpAny_pure ?_)))
  have hall : (fs.toArray.all fun x => x.isSome) = false := by rw [List.all_toArray]; exact hn
  rw [if_neg (by rw [hall]; exact Bool.false_ne_true)]
  unfold usKd at h
  split
  · rename_i hc
    rw [if_pos hc] at h
    exact wpAny_pure h
  · rename_i hc
    rw [if_neg hc] at h
    rw [oneTypeOnly'_eq, List.mapM_toArray, map_eq_pure_bind]
    refine wpAny_bind (wpAny_bind (wpAny_bind (kas_mapM (r := Value.type "tuple") _ (fun v hv Q' hq => (hT v hv).here hq) (wpAny_pure ?_))))
    obtain ⟨v₁, v₂, rest, rfl⟩ : ∃ v₁ v₂ rest, vs = v₁ :: v₂ :: rest := by
      match vs, h2 with
      | [], h2 => simp at h2
      | [_], h2 => simp at h2
      | v₁ :: v₂ :: rest, _ => exact ⟨v₁, v₂, rest, rfl⟩
    have hall2 : ((List.map (fun _ => Value.type "tuple") (v₁ :: v₂ :: rest)).toArray.all fun x => x == Value.type "tuple") = true := by
      simp only [List.all_toArray, List.all_map, List.all_eq_true]
      intro _ _
      rfl
    have h0 : (List.map (fun _ => Value.type "tuple") (v₁ :: v₂ :: rest)).toArray[0]? = some (Value.type "tuple") := by simp
    rw [h0]
    simp only [hall2, if_true]
    exact wpAny_pure (wpAny_pure h)
theorem us_sorts {vs : List Value} {ds : List PyData} (e : EachIs (fun v d => ∃ as, Reads s.heap v d as) vs ds) (hal : AllAlike ds) (hk : ∀ d, d ∈ ds → ∃ xs, d = .tuple xs) (hu : ∀ d, d ∈ ds → A.units + d.depth < cLine) : SortsAt prog w A s (dataKind s.heap ds) vs := by
  by_cases hne : ∀ d, d ∈ ds → ∃ x r, d = .tuple (x :: r)
  · exact SortsAt.data e hal (.inl hne) hu
  obtain ⟨fs, t1, t2, t3⟩ := us_tups e hk
  have hno : fs.all (·.isSome) = false := by
    cases q : fs.all (·.isSome) with
    | false => rfl
    | true =>
      refine absurd (fun d hd => ?_) hne
      obtain ⟨xs, rfl⟩ := hk d hd
      cases xs with
      | cons x r => exact ⟨x, r, rfl⟩
      | nil =>
        have m : false ∈ fs.map (·.isSome) := by
          rw [t3]
          exact List.mem_map.mpr ⟨_, hd, rfl⟩
        obtain ⟨f, hf, e'⟩ := List.mem_map.mp m
        have := List.all_eq_true.mp q f hf
        rw [e'] at this
        cases this
  have room : ∀ {d d' : PyData}, d ∈ ds → A.units + min d.depth d'.depth < cLine := fun {d d'} hd => Nat.lt_of_le_of_lt (Nat.add_le_add_left (Nat.min_le_left _ _) _) (hu d hd)
  have looks : ∀ v ∈ vs, Looks (model prog w) s.heap (typeOf v) (.type "tuple") := fun v hv => by
    obtain ⟨d, hd, as, r⟩ := e.left v hv
    obtain ⟨xs, rfl⟩ := hk d hd
    exact looks_reads r
  have lt : ∀ kd : SortKind, kd = general' ∨ kd = oneType' → PyProof.Rows.H.LtAt prog w A s (dataKind s.heap ds) kd := fun kd hkd => by
    intro E x y a b Q ha hb hq
    obtain ⟨d, as, hd, ra, rfl⟩ := dataKind_inv ha
    obtain ⟨d', as', hd', rb, rfl⟩ := dataKind_inv hb
    obtain ⟨xs, rfl⟩ := hk d hd
    obtain ⟨ys, rfl⟩ := hk d' hd'
    rcases hkd with rfl | rfl
    · rw [us_general]
      exact oneLt_alike (fun z => absurd z Bool.false_ne_true) ra rb (hal _ hd _ hd') (fun z => nomatch z) (room hd) hq
    · rw [keyLt'_oneType]
      exact us_one_tuples ra rb (hal _ hd _ hd') (room hd) hq
  refine ⟨fun v hv => ?_, ?_⟩
  · obtain ⟨d, hd, as, r⟩ := e.left v hv
    exact ⟨_, dataKind_some hal hd r⟩
  · exact ⟨usKd fs, lt _ (usKd_or fs), fun h2 E Q hq => us_kind t1 h2 t2 looks hno hq⟩
end
end U

/-! U6: subscripts, slices, unary operations, calls of built-in functions. -/
namespace U
open PySem PySem.Spec PyProof.Rows L2

/-! ### places -/
theorem atI_rds {P : Program} {w : World} {K : PySem.W.Frag} {L : Lay} {ds : List D} {vs : List V} (h : RDs P w K L ds vs) {i : Int} {d : D} (e : atI ds i = some d) : ∃ v, atI vs i = some v ∧ RD P w K L d v := by
  unfold atI at e ⊢
  rw [← h.length]
  cases q : ixN ds.length i with
  | none => rw [q] at e; cases e
  | some j => rw [q] at e; exact h.get e
def ixD : O2
  | .lst xs, .int i => (atI xs i).map .v
  | .tup xs, .int i => (atI xs i).map .v
  | .scr xs, .int i => (atI xs i).map .v
  | .str z, .int i => if z.length ≤ big then (atI z.cps.toList i).map fun c => .v (.str ⟨#[c]⟩) else none
  | .dct kvs, k => match dfind kvs k with
    | some (some d) => some (.v d)
    | _ => none
  | _, _ => none
theorem dfind_kk {kvs : List (D × D)} {k : D} {r : Option D} (h : dfind kvs k = some r) : ∃ u, kk k = some u := by
  unfold dfind at h
  split at h
  · exact ⟨_, by assumption⟩
  · cases h
section
variable {X : Cx}
theorem ix_U (hu : X.A.units + 100 < cLine) : IxR X (rOp X.prog X.w X.K ixD) := by
  intro value slice pins s σ H x y v u Q I rx ry ⟨L, env, ah, d1, d2, r, hr, b1, b2, e, q⟩ hs
  cases d1 with
  | lst xs =>
    cases d2 <;> simp only [ixD] at e <;> try (cases e; done)
    rename_i i
    obtain ⟨d, ed, rfl⟩ := Option.map_eq_some_iff.mp e
    obtain ⟨a, vs, rfl, h1, h2⟩ := b1
    obtain rfl : y = .int i := b2
    obtain ⟨z, ez, hz⟩ := atI_rds h2 ed
    exact ix_list value slice pins s σ H _ _ v u Q I rx ry ⟨a, vs, i, z, rfl, rfl, SqL.of h1, ez, fin_v hr hz q⟩ hs
  | scr xs =>
    cases d2 <;> simp only [ixD] at e <;> try (cases e; done)
    rename_i i
    obtain ⟨d, ed, rfl⟩ := Option.map_eq_some_iff.mp e
    have b1 : RD X.prog X.w X.K L (.scr xs) x := b1
    rw [RD] at b1
    obtain ⟨a, vs, rfl, h1, h2⟩ := b1
    obtain rfl : y = .int i := b2
    obtain ⟨z, ez, hz⟩ := atI_rds h2 ed
    exact ix_list value slice pins s σ H _ _ v u Q I rx ry ⟨a, vs, i, z, rfl, rfl, hr.sub.seq h1, ez, fin_v hr hz q⟩ hs
  | tup xs =>
    cases d2 <;> simp only [ixD] at e <;> try (cases e; done)
    rename_i i
    obtain ⟨d, ed, rfl⟩ := Option.map_eq_some_iff.mp e
    have b1 : RD X.prog X.w X.K L (.tup xs) x := b1
    rw [RD] at b1
    obtain ⟨a, vs, rfl, h1, h2⟩ := b1
    obtain rfl : y = .int i := b2
    obtain ⟨z, ez, hz⟩ := atI_rds h2 ed
    exact ix_tup value slice pins s σ H _ _ v u Q I rx ry ⟨a, vs, i, z, rfl, rfl, sqT_same hr.sub h1, ez, fin_v hr hz q⟩ hs
  | str z =>
    cases d2 <;> simp only [ixD, Option.ite_none_right_eq_some] at e <;> try (cases e; done)
    rename_i i
    obtain ⟨hz, e⟩ := e
    obtain ⟨c, ec, rfl⟩ := Option.map_eq_some_iff.mp e
    obtain rfl : x = .str z := b1
    obtain rfl : y = .int i := b2
    exact ix_str value slice pins s σ H _ _ v u Q I rx ry ⟨z, i, c, rfl, rfl, Nat.le_trans hz big_line, ec, fin_v hr (show RD X.prog X.w X.K L (.str ⟨#[c]⟩) (.str ⟨#[c]⟩) by rw [RD]) q⟩ hs
  | dct kvs =>
    have e : (match dfind kvs d2 with | some (some d) => some (Rw.v d) | _ => none) = some r := by
      cases d2 <;> exact e
    split at e
    · rename_i d ed
      cases e
      obtain ⟨a, rfl, b1⟩ := rb_ref b1
      cases rx
      obtain ⟨un, hk⟩ := dfind_kk ed
      have k := ask I hr.sub b1 (rb_key hk b2) ry ed
      exact tail_any (dict_isDict I k) PySem.F.slot_dict_getitem.lookup (dict_item (by omega) I k ry fun v' w' s' h1 h2 I' => ⟨v', H, I', h2, fin_v hr h1 q⟩) hs
    · cases e
  | non => simp [ixD] at e
  | bl _ => simp [ixD] at e
  | int _ => simp [ixD] at e
  | ref _ => simp [ixD] at e
  | pr _ => simp [ixD] at e
end

/-! ### slices -/
abbrev FO := Ev → AH → Option (Option Int × AH)
def oNone : FO := fun _ ah => some (none, ah)
def oSome (f : FE) : FO := fun env ah => (f env ah).bind fun p => match p.1 with | .v (.int i) => some (some i, p.2) | _ => none
def cutD {α : Type} (xs : List α) (lo hi : Option Int) : List α := (xs.drop (HT.sIx xs.length 0 lo)).take (HT.sIx xs.length xs.length hi - HT.sIx xs.length 0 lo)
def slD (d : D) (lo hi : Option Int) : Option Rw := match d with
  | .lst xs => some (.f (.lst (cutD xs lo hi)))
  | .scr xs => some (.f (.lst (cutD xs lo hi)))
  | .tup xs => some (.v (.tup (cutD xs lo hi)))
  | _ => none
def sSl (f : FE) (lo hi : FO) : FE := fun env ah => (f env ah).bind fun p => (lo env p.2).bind fun q => (hi env q.2).bind fun t => (p.1.rd env t.2).bind fun d => (slD d q.1 t.1).map fun r => (r, t.2)
def TOf (P : Program) (w : World) (K : PySem.W.Frag) (f : FO) : L2.TO := fun σ H Q => ∃ L env ah, Rl P w K L env ah σ H ∧ ∃ o ah', f env ah = some (o, ah') ∧ ∀ L' H', Go P w K L env ah H L' ah' H' → Q o H'
structure DO (X : Cx) (e : Option Expr) (f : FO) : Prop where
  po : PO X e (TOf X.prog X.w X.K f)
theorem RDs.cut {P : Program} {w : World} {K : PySem.W.Frag} {L : Lay} {ds : List D} {vs : List V} (h : RDs P w K L ds vs) (lo hi : Option Int) : RDs P w K L (cutD ds lo hi) (cutV vs lo hi) := by
  unfold cutD cutV
  rw [← h.length]
  exact (h.drop _).take _
def rSl (P : Program) (w : World) (K : PySem.W.Frag) : V → Option Int → Option Int → Hp → VK → Prop := fun x lo hi H Q => ∃ L env ah d r, HR P w K L env ah H ∧ RB P w K L H d x ∧ slD d lo hi = some r ∧
  ∀ L' z H', Go P w K L env ah H L' ah H' → RW P w K H L' env ah H' r z → Q z H'
section
variable {X : Cx} {e : Expr} {f : FE}
theorem weakO {e : Option Expr} {t t' : L2.TO} (h : PO X e t) (hw : ∀ σ H Q, t' σ H Q → t σ H Q) : PO X e t' :=
  ⟨fun pins s σ H Q I q => h.run pins s σ H Q I (hw σ H Q q)⟩
theorem do_none : DO X none oNone := ⟨weakO po_none fun σ H Q ⟨L, env, ah, R, o, ah', e, q⟩ => by cases e; exact q L H (Go.refl R.hr)⟩
theorem do_some (h : DE X e f) : DO X (some e) (oSome f) := ⟨weakO (po_some h) fun σ H Q ⟨L, env, ah, R, o, ah', e, q⟩ => by
  simp only [oSome, Option.bind_eq_some_iff] at e
  obtain ⟨⟨r, ah1⟩, e1, e2⟩ := e
  split at e2
  · rename_i i e3
    cases e2
    obtain rfl : r = .v (.int i) := e3
    refine ⟨L, env, ah, R, _, _, e1, fun L1 x H1 g1 w1 => ⟨i, ?_, q L1 H1 g1⟩⟩
    have w1 : RD X.prog X.w X.K L1 (.int i) x := w1
    rw [RD] at w1
    exact w1
  · cases e2⟩
theorem sl_U : SlR X (rSl X.prog X.w X.K) := by
  intro pins s σ H x v vl vu lo hi sl Q I rx hs pl pu ⟨L, env, ah, d, r, hr, b, e, q⟩
  cases d <;> simp only [slD, Option.some.injEq] at e <;> try (cases e; done)
  · subst e
    have b : RD X.prog X.w X.K L (.tup _) x := b
    have B := b
    rw [RD] at b
    obtain ⟨a, vs, rfl, h1, h2⟩ := b
    refine sl_tupP pins s σ H _ v vl vu lo hi sl Q I rx hs pl pu ⟨a, vs, rfl, sqT_same hr.sub h1, fun hw => ?_, fin_tup hr (h2.cut lo hi) q⟩
    rename_i xs
    have : cutD xs lo hi = xs := by
      unfold cutD
      rw [h2.length, hw.1, hw.2, List.drop_zero, Nat.sub_zero, ← h2.length, List.take_length]
    rw [this] at q
    exact fin_v hr B q
  · subst e
    obtain ⟨a, vs, rfl, h1, h2⟩ := b
    exact sl_list pins s σ H _ v vl vu lo hi sl Q I rx hs pl pu ⟨a, vs, rfl, SqL.of h1, fin_lst hr (h2.cut lo hi) q⟩
  · subst e
    have b : RD X.prog X.w X.K L (.scr _) x := b
    rw [RD] at b
    obtain ⟨a, vs, rfl, h1, h2⟩ := b
    exact sl_list pins s σ H _ v vl vu lo hi sl Q I rx hs pl pu ⟨a, vs, rfl, hr.sub.seq h1, fin_lst hr (h2.cut lo hi) q⟩
theorem te_sl {P : Program} {w : World} {K : PySem.W.Frag} {f : FE} {lo hi : FO} {σ : L2.St} {H : Hp} {Q : VK} (t : TE P w K (sSl f lo hi) σ H Q) : tSl (rSl P w K) (TE P w K f) (TOf P w K lo) (TOf P w K hi) σ H Q := by
  obtain ⟨L, env, ah, R, r, ah', e, q⟩ := t
  simp only [sSl, Option.bind_eq_some_iff, Option.map_eq_some_iff] at e
  obtain ⟨⟨r1, ah1⟩, e1, ⟨o2, ah2⟩, e2, ⟨o3, ah3⟩, e3, d, ed, r4, e4, e5⟩ := e
  cases e5
  refine ⟨L, env, ah, R, r1, ah1, e1, fun L1 x H1 g1 w1 => ⟨L1, env, ah1, R.go g1, o2, ah2, e2, fun L2 H2 g2 => ⟨L2, env, ah2, (R.go g1).go g2, o3, _, e3, fun L3 H3 g3 => ⟨L3, env, _, d, _, g3.hr, RW.rd g3.hr ((w1.go g2).go g3) ed, e4, fun L4 z H4 g4 w4 => ?_⟩⟩⟩⟩
  exact q L4 z H4 (g1.trans (g2.trans (g3.trans g4))) (RW.back R.hr (g1.trans (g2.trans g3)) w4)
theorem de_sl {lo hi : Option Expr} {fl fh : FO} {pos p2 : Pos} (h : DE X e f) (hl : DO X lo fl) (hh : DO X hi fh) : DE X (.Subscript e (.Slice lo hi none p2) pos) (sSl f fl fh) :=
  weakE (pe_slice sl_U h hl.po hh.po) fun _ _ _ t => te_sl t
theorem de_ix {a b : Expr} {f g : FE} {pos : Pos} (hu : X.A.units + 100 < cLine) (ha : DE X a f) (hb : DE X b g) (hs : PlainIx b) : DE X (.Subscript a b pos) (sOp2 ixD f g) :=
  weakE (pe_ix (ix_U hu) ha hb hs) fun _ _ _ t => te_op2 t
/-! ### - and ~ -/
def unD : UnaryOp → O1
  | .USub, .int i => some (.v (.int (-i)))
  | .Invert, .int i => some (.v (.int (Builtin.bitNot i)))
  | _, _ => none
theorem de_un {a : Expr} {op : UnaryOp} {f : FE} {pos : Pos} (ho : op = .USub ∨ op = .Invert) (ha : DE X a f) : DE X (.UnaryOp op a pos) (sOp1 (unD op) f) := by
  rcases ho with rfl | rfl
  · refine weakE (pe_un un_neg ha) fun σ H Q t => ?_
    obtain ⟨L, env, ah, R, r, ah', e, q⟩ := te_op1 t
    refine ⟨L, env, ah, R, r, ah', e, fun L1 x H1 g1 w1 => ?_⟩
    obtain ⟨L2, env2, ah2, d, r2, hr, b, e2, q2⟩ := q L1 x H1 g1 w1
    cases d <;> simp only [unD, Option.some.injEq] at e2 <;> try (cases e2; done)
    subst e2
    rename_i i
    exact ⟨i, b, fin_v hr (show RD X.prog X.w X.K L2 (.int (-i)) (.int (-i)) by rw [RD]) q2⟩
  · refine weakE (pe_un un_inv ha) fun σ H Q t => ?_
    obtain ⟨L, env, ah, R, r, ah', e, q⟩ := te_op1 t
    refine ⟨L, env, ah, R, r, ah', e, fun L1 x H1 g1 w1 => ?_⟩
    obtain ⟨L2, env2, ah2, d, r2, hr, b, e2, q2⟩ := q L1 x H1 g1 w1
    cases d <;> simp only [unD, Option.some.injEq] at e2 <;> try (cases e2; done)
    subst e2
    rename_i i
    exact ⟨i, b, fin_v hr (show RD X.prog X.w X.K L2 (.int (Builtin.bitNot i)) (.int (Builtin.bitNot i)) by rw [RD]) q2⟩
end

/-! ### built-in functions of one value -/
def lenD : O1
  | .lst xs => some (.v (.int xs.length))
  | .scr xs => some (.v (.int xs.length))
  | .tup xs => some (.v (.int xs.length))
  | .str z => if z.length ≤ big then some (.v (.int z.length)) else none
  | .dct kvs => some (.v (.int kvs.length))
  | _ => none
def absD : O1
  | .int i => some (.v (.int (if i < 0 then -i else i)))
  | _ => none
def intD : O1
  | .int i => some (.v (.int i))
  | .bl b => some (.v (.int (if b then 1 else 0)))
  | _ => none
def bools : List D → Option (List Bool)
  | [] => some []
  | .bl b :: r => (bools r).map (b :: ·)
  | _ => none
def intsD : List D → Option (List Int)
  | [] => some []
  | .int b :: r => (intsD r).map (b :: ·)
  | _ => none
def allD : O1
  | .lst xs => (bools xs).map fun bs => .v (.bl (bs.all id))
  | _ => none
def anyD : O1
  | .lst xs => (bools xs).map fun bs => .v (.bl (bs.any id))
  | _ => none
def sumD : O1
  | .lst xs => (intsD xs).map fun ns => .v (.int ns.sum)
  | _ => none
def tupD : O1
  | .lst xs => some (.v (.tup xs))
  | .scr xs => some (.v (.tup xs))
  | .tup xs => some (.v (.tup xs))
  | _ => none
def lstD : O1
  | .lst xs => some (.f (.lst xs))
  | .scr xs => some (.f (.lst xs))
  | .tup xs => some (.f (.lst xs))
  | .dct kvs => some (.f (.lst (kvs.map (·.1))))
  | _ => none
def rC1 (P : Program) (w : World) (K : PySem.W.Frag) (h : O1) : List V → Hp → VK → Prop := fun vs H Q => ∃ x, vs = [x] ∧ rU P w K h x H Q
section
variable {X : Cx}
theorem bools_rds {P : Program} {w : World} {K : PySem.W.Frag} {L : Lay} : ∀ {ds : List D} {vs : List V} {bs : List Bool}, RDs P w K L ds vs → bools ds = some bs → vs = bs.map V.bl
  | [], _, _, h, e => by rw [RDs] at h; cases e; exact h
  | d :: ds, _, _, h, e => by
    rw [RDs] at h
    obtain ⟨v, r, rfl, h1, h2⟩ := h
    cases d <;> simp only [bools] at e <;> try (cases e; done)
    obtain ⟨bs', e1, rfl⟩ := Option.map_eq_some_iff.mp e
    rw [RD] at h1
    rw [h1, bools_rds h2 e1, List.map_cons]
theorem intsD_rds {P : Program} {w : World} {K : PySem.W.Frag} {L : Lay} : ∀ {ds : List D} {vs : List V} {bs : List Int}, RDs P w K L ds vs → intsD ds = some bs → vs = bs.map V.int
  | [], _, _, h, e => by rw [RDs] at h; cases e; exact h
  | d :: ds, _, _, h, e => by
    rw [RDs] at h
    obtain ⟨v, r, rfl, h1, h2⟩ := h
    cases d <;> simp only [intsD] at e <;> try (cases e; done)
    obtain ⟨bs', e1, rfl⟩ := Option.map_eq_some_iff.mp e
    rw [RD] at h1
    rw [h1, intsD_rds h2 e1, List.map_cons]
theorem fin_o {L : Lay} {env : Ev} {ah : AH} {H : Hp} {d : D} {x : V} {Q : VK} (hr : HR X.prog X.w X.K L env ah H) (h : RD X.prog X.w X.K L d x) (q : ∀ L' z H', Go X.prog X.w X.K L env ah H L' ah H' → RW X.prog X.w X.K H L' env ah H' (.v d) z → Q z H') : Q x H := fin_v hr h q
end
end U

/-! U7: built-in functions of one value. -/
namespace U
open PySem PySem.Spec PyProof.Rows L2
section
variable {X : Cx}
theorem dct_cases {pins : List (Addr × Obj)} {σ : L2.St} {s : Shared} {L : Lay} {H : Hp} {kvs : List (D × D)} {a : Addr} (I : Inv X pins σ H s) (e : Same L.F H) (h : RB X.prog X.w X.K L H (.dct kvs) (.ref a)) :
    (∃ es, H a = some (.dK es) ∧ RDk X.prog X.w X.K L kvs es) ∨ (a == sysModules) = false ∧ kvs.length ≤ sizeLine ∧ ∃ (xs : List (NestedKey × Addr × Value)), s.heap.DictOfH (nestedKind X.prog X.w) a xs ∧ RH X.prog X.w X.K L kvs xs := by
  obtain ⟨a', e', h⟩ := h
  cases e'
  rcases h with h | ⟨es, h1, h0, h2⟩
  · exact .inl h
  · obtain ⟨⟨hd, hz, hn, ys, hp, o, es', ep, ho, hc, hdat, hes⟩, _⟩ := I.hok a _ h1
    have r := rh_of h2 hp
    have l1 := Paired.length r
    have l2 := Paired.length hp
    refine .inr ⟨hd, by rw [l1, ← l2]; exact hz, ys, ⟨o, es', ep, ho, hc, hdat, hes, rh_is I e r, ?_⟩, r⟩
    rw [← fst_eq hp]
    exact hn
theorem rdk_len' {P : Program} {w : World} {K : PySem.W.Frag} {L : Lay} : ∀ {kvs : List (D × D)} {es : List (Key × V)}, RDk P w K L kvs es → kvs.length = es.length
  | [], _, h => by rw [RDk] at h; subst h; rfl
  | (k, d) :: r, _, h => by
    rw [RDk] at h
    obtain ⟨k', v, r', rfl, _, _, h2⟩ := h
    rw [List.length_cons, List.length_cons, rdk_len' h2]
theorem rdk_keys {P : Program} {w : World} {K : PySem.W.Frag} {L : Lay} : ∀ {kvs : List (D × D)} {es : List (Key × V)}, RDk P w K L kvs es → RDs P w K L (kvs.map (·.1)) (es.map fun kv => kV kv.1)
  | [], _, h => by rw [RDk] at h; subst h; exact RDs.nil
  | (k, d) :: r, _, h => by
    rw [RDk] at h
    obtain ⟨k', v, r', rfl, rfl, _, h2⟩ := h
    refine RDs.cons ?_ (rdk_keys h2)
    cases k' <;> (rw [keyD, RD]; rfl)
theorem rh_keys {P : Program} {w : World} {K : PySem.W.Frag} {L : Lay} {kvs : List (D × D)} {xs : List (NestedKey × Addr × Value)} (h : RH P w K L kvs xs) : RDs P w K L (kvs.map (·.1)) ((xs.map fun x => x.2.1).map V.ref) := by
  induction h with
  | nil => exact RDs.nil
  | cons p q ih => exact RDs.cons p.2.1 ih
/- len -/
theorem cr_len : CallR X (.builtin "len") (rC1 X.prog X.w X.K lenD) := by
  rintro pins s σ H vs us Q I rv ⟨x, rfl, L, env, ah, d, r, hr, b, e, q⟩
  have fi : ∀ n : Nat, (∀ L' z H', Go X.prog X.w X.K L env ah H L' ah H' → RW X.prog X.w X.K H L' env ah H' (.v (.int n)) z → Q z H') → Q (.int n) H := fun n q => fin_v hr (show RD X.prog X.w X.K L (.int n) (.int n) by rw [RD]) q
  cases d with
  | lst xs =>
    cases e
    obtain ⟨a, ys, rfl, h1, h2⟩ := b
    exact call_len_seq pins s σ H _ us Q I rv ⟨a, ys, rfl, .inl (SqL.of h1), by rw [← h2.length]; exact fi _ q⟩
  | scr xs =>
    cases e
    have b : RD X.prog X.w X.K L (.scr xs) x := b
    rw [RD] at b
    obtain ⟨a, ys, rfl, h1, h2⟩ := b
    exact call_len_seq pins s σ H _ us Q I rv ⟨a, ys, rfl, .inl (hr.sub.seq h1), by rw [← h2.length]; exact fi _ q⟩
  | tup xs =>
    cases e
    have b : RD X.prog X.w X.K L (.tup xs) x := b
    rw [RD] at b
    obtain ⟨a, ys, rfl, h1, h2⟩ := b
    exact call_len_seq pins s σ H _ us Q I rv ⟨a, ys, rfl, .inr (sqT_same hr.sub h1), by rw [← h2.length]; exact fi _ q⟩
  | str z =>
    simp only [lenD, Option.ite_none_right_eq_some, Option.some.injEq] at e
    obtain ⟨hz, rfl⟩ := e
    obtain rfl : x = .str z := b
    exact call_len_str pins s σ H _ us Q I rv ⟨z, rfl, Nat.le_trans hz big_line, fi _ q⟩
  | dct kvs =>
    cases e
    obtain ⟨a, rfl, b⟩ := rb_ref b
    rcases dct_cases I hr.sub b with ⟨es, h1, h2⟩ | ⟨hd, hz, xs, h1, h2⟩
    · exact call_lenD pins s σ H _ us Q I rv ⟨a, es, rfl, h1, by rw [← rdk_len' h2]; exact fi _ q⟩
    · obtain ⟨u, rfl, rx⟩ := vals1 rv
      cases rx
      have l1 : kvs.length = xs.length := Paired.length h2
      have hn := line63
      refine call_len_dictH hd h1 (by rw [← l1]; omega) ⟨.int xs.length, H, I.tok _, ⟨_, rfl⟩, ?_⟩
      rw [← l1]
      exact fi _ q
  | non => simp [lenD] at e
  | bl _ => simp [lenD] at e
  | int _ => simp [lenD] at e
  | ref _ => simp [lenD] at e
  | pr _ => simp [lenD] at e
theorem cr_abs : CallR X (.builtin "abs") (rC1 X.prog X.w X.K absD) := by
  rintro pins s σ H vs us Q I rv ⟨x, rfl, L, env, ah, d, r, hr, b, e, q⟩
  cases d <;> simp only [absD, Option.some.injEq] at e <;> try (cases e; done)
  subst e
  exact call_abs pins s σ H _ us Q I rv ⟨_, congrArg (fun z => [z]) b, fin_v hr (by rw [RD]) q⟩
theorem cr_int : CallR X (.type "int") (rC1 X.prog X.w X.K intD) := by
  rintro pins s σ H vs us Q I rv ⟨x, rfl, L, env, ah, d, r, hr, b, e, q⟩
  cases d <;> simp only [intD, Option.some.injEq] at e <;> try (cases e; done)
  · subst e
    exact call_int1 pins s σ H _ us Q I rv (.inr ⟨_, congrArg (fun z => [z]) b, fin_v hr (by rw [RD]) q⟩)
  · subst e
    exact call_int1 pins s σ H _ us Q I rv (.inl ⟨_, congrArg (fun z => [z]) b, fin_v hr (by rw [RD]) q⟩)
theorem cr_allU (hc : X.calm = true) : CallR X (.builtin "all") (rC1 X.prog X.w X.K allD) := by
  rintro pins s σ H vs us Q I rv ⟨x, rfl, L, env, ah, d, r, hr, b, e, q⟩
  cases d <;> simp only [allD, Option.map_eq_some_iff] at e <;> try (cases e; done)
  obtain ⟨bs, e, rfl⟩ := e
  obtain ⟨a, ys, rfl, h1, h2⟩ := b
  rw [bools_rds h2 e] at h1
  exact cr_all hc pins s σ H _ us Q I rv ⟨a, bs, rfl, SqL.of h1, fin_v hr (by rw [RD]) q⟩
theorem cr_anyU (hc : X.calm = true) : CallR X (.builtin "any") (rC1 X.prog X.w X.K anyD) := by
  rintro pins s σ H vs us Q I rv ⟨x, rfl, L, env, ah, d, r, hr, b, e, q⟩
  cases d <;> simp only [anyD, Option.map_eq_some_iff] at e <;> try (cases e; done)
  obtain ⟨bs, e, rfl⟩ := e
  obtain ⟨a, ys, rfl, h1, h2⟩ := b
  rw [bools_rds h2 e] at h1
  exact cr_any hc pins s σ H _ us Q I rv ⟨a, bs, rfl, SqL.of h1, fin_v hr (by rw [RD]) q⟩
theorem cr_sumU (hc : X.calm = true) : CallR X (.builtin "sum") (rC1 X.prog X.w X.K sumD) := by
  rintro pins s σ H vs us Q I rv ⟨x, rfl, L, env, ah, d, r, hr, b, e, q⟩
  cases d <;> simp only [sumD, Option.map_eq_some_iff] at e <;> try (cases e; done)
  obtain ⟨bs, e, rfl⟩ := e
  obtain ⟨a, ys, rfl, h1, h2⟩ := b
  rw [intsD_rds h2 e] at h1
  exact cr_sum hc pins s σ H _ us Q I rv ⟨a, bs, rfl, SqL.of h1, fin_v hr (by rw [RD]) q⟩
theorem cr_tupU : CallR X (.type "tuple") (rC1 X.prog X.w X.K tupD) := by
  rintro pins s σ H vs us Q I rv ⟨x, rfl, L, env, ah, d, r, hr, b, e, q⟩
  cases d <;> simp only [tupD, Option.some.injEq] at e <;> try (cases e; done)
  · subst e
    rename_i xs
    have b : RD X.prog X.w X.K L (.tup xs) x := b
    have B := b
    rw [RD] at b
    obtain ⟨a, ys, rfl, h1, h2⟩ := b
    exact call_tupleP pins s σ H _ us Q I rv ⟨a, ys, rfl, .inr ⟨sqT_same hr.sub h1, fin_v hr B q⟩⟩
  · subst e
    obtain ⟨a, ys, rfl, h1, h2⟩ := b
    exact call_tupleP pins s σ H _ us Q I rv ⟨a, ys, rfl, .inl ⟨SqL.of h1, fin_tup hr h2 q⟩⟩
  · subst e
    rename_i xs
    have b : RD X.prog X.w X.K L (.scr xs) x := b
    rw [RD] at b
    obtain ⟨a, ys, rfl, h1, h2⟩ := b
    exact call_tupleP pins s σ H _ us Q I rv ⟨a, ys, rfl, .inl ⟨hr.sub.seq h1, fin_tup hr h2 q⟩⟩
theorem cr_lstU (hc : X.calm = true) : CallR X (.type "list") (rC1 X.prog X.w X.K lstD) := by
  rintro pins s σ H vs us Q I rv ⟨x, rfl, L, env, ah, d, r, hr, b, e, q⟩
  cases d with
  | tup xs =>
    cases e
    have b : RD X.prog X.w X.K L (.tup xs) x := b
    rw [RD] at b
    obtain ⟨a, ys, rfl, h1, h2⟩ := b
    exact call_list_of pins s σ H _ us Q I rv ⟨a, ys, rfl, .inr (sqT_same hr.sub h1), fin_lst hr h2 q⟩
  | lst xs =>
    cases e
    obtain ⟨a, ys, rfl, h1, h2⟩ := b
    exact call_list_of pins s σ H _ us Q I rv ⟨a, ys, rfl, .inl (SqL.of h1), fin_lst hr h2 q⟩
  | scr xs =>
    cases e
    have b : RD X.prog X.w X.K L (.scr xs) x := b
    rw [RD] at b
    obtain ⟨a, ys, rfl, h1, h2⟩ := b
    exact call_list_of pins s σ H _ us Q I rv ⟨a, ys, rfl, .inl (hr.sub.seq h1), fin_lst hr h2 q⟩
  | dct kvs =>
    cases e
    obtain ⟨a, rfl, b⟩ := rb_ref b
    rcases dct_cases I hr.sub b with ⟨es, h1, h2⟩ | ⟨hd, hz, xs, h1, h2⟩
    · exact call_list_dK hc pins s σ H _ us Q I rv ⟨a, es, rfl, h1, fin_lst hr (rdk_keys h2) q⟩
    · obtain ⟨u, rfl, rx⟩ := vals1 rv
      cases rx
      have hl : kvs.length = xs.length := Paired.length h2
      obtain ⟨o, es, ep, ho, hx, hdt, he, _, _⟩ := h1
      have n1 : es.size = xs.length := size_of_entries he
      refine PySem.W.kdl_call (kdl_raw hd hx hdt) (I.ok.hd hc) ho (by omega) fun h' tk acc' c' kp sq it => ?_
      have ea : acc'.toList = (xs.map fun x => x.2.1).map Value.ref := by
        refine List.ext_getElem? fun j => ?_
        rw [List.map_map, List.getElem?_map]
        cases hj : acc'.toList[j]? with
        | none =>
          have g1 := List.getElem?_eq_none_iff.mp hj
          rw [Array.length_toList, it.1] at g1
          rw [List.getElem?_eq_none (by omega), Option.map_none]
        | some v =>
          obtain ⟨en, g2, rfl⟩ := it.2 j v (by rw [← Array.getElem?_toList]; exact hj)
          have g3 := entry_at he j
          rw [g2] at g3
          cases hb : xs[j]? with
          | none => rw [hb] at g3; cases g3
          | some y =>
            rw [hb] at g3
            have g4 : en = entryOfKey (nestedKind X.prog X.w) y := Option.some.inj g3
            subst g4
            rfl
      refine ⟨.ref s.heap.objs.size, _, I.laid (t' := tk) (o := .lst ((xs.map fun x => x.2.1).map V.ref)) kp (Nat.le_refl _) ?_, rfl, fin_lst hr (rh_keys h2) q _ (I.hok.fresh (Nat.le_refl _))⟩
      exact ⟨by rw [List.length_map, List.length_map]; omega, acc'.toList, c', by rw [ea]; exact vals_refs _, by rw [Array.toArray_toList]; exact sq⟩
  | non => simp [lstD] at e
  | bl _ => simp [lstD] at e
  | int _ => simp [lstD] at e
  | str _ => simp [lstD] at e
  | ref _ => simp [lstD] at e
  | pr _ => simp [lstD] at e
end
end U

/-! U8: sorted, dict. -/
namespace U
open PySem PySem.Spec PyProof.Rows L2
def isTupD : D → Bool
  | .tup _ => true
  | _ => false
def isItem : D → Bool
  | .int _ => true
  | .str _ => true
  | .lst _ => true
  | _ => false
def sortable (xs : List D) : Bool := flats 30 xs && (xs.all fun d => xs.all fun e => PySem.W.alike (toP d) (toP e)) && (xs.all isTupD || xs.all isItem)
def sortedL (xs : List D) : List D := xs.mergeSort (PySem.W.dataLe false toP)
def sortD : O1
  | .lst xs => if sortable xs then some (.f (.lst (sortedL xs))) else none
  | _ => none
section
variable {X : Cx}
theorem each_rds {P : Program} {w : World} {K : PySem.W.Frag} {L : Lay} : ∀ {ds : List D} {vs : List V} {us : List Value}, RDs P w K L ds vs → Vals vs us → PySem.W.EachIs (fun (u : Value) d => ∃ v, RD P w K L d v ∧ RelV v u) us ds
  | [], _, us, h, r => by rw [RDs] at h; subst h; cases r; exact .nil
  | d :: ds, _, us, h, r => by
    rw [RDs] at h
    obtain ⟨v, rr, rfl, h1, h2⟩ := h
    cases r with
    | cons r1 r2 => exact .cons ⟨v, h1, r1⟩ (each_rds h2 r2)
theorem rds_each {P : Program} {w : World} {K : PySem.W.Frag} {L : Lay} {ds : List D} {us : List Value} (h : PySem.W.EachIs (fun (u : Value) d => ∃ v, RD P w K L d v ∧ RelV v u) us ds) : ∃ vs, RDs P w K L ds vs ∧ Vals vs us := by
  induction h with
  | nil => exact ⟨[], RDs.nil, .nil⟩
  | cons p q ih =>
    obtain ⟨v, h1, r1⟩ := p
    obtain ⟨vs, h2, r2⟩ := ih
    exact ⟨v :: vs, RDs.cons h1 h2, .cons r1 r2⟩
theorem flats_mem : ∀ {n : Nat} {xs : List D}, flats n xs = true → ∀ d ∈ xs, flat n d = true
  | n, x :: xs, h, d, hd => by
    rw [flats, Bool.and_eq_true] at h
    rcases List.mem_cons.mp hd with rfl | hd
    · exact h.1
    · exact flats_mem h.2 d hd
theorem each_mono' {α β : Type} {R S : α → β → Prop} {as : List α} {bs : List β} (h : PySem.W.EachIs R as bs) (f : ∀ a b, b ∈ bs → R a b → S a b) : PySem.W.EachIs S as bs := by
  induction h with
  | nil => exact .nil
  | cons p q ih => exact .cons (f _ _ (List.mem_cons_self ..) p) (ih fun a b hb => f a b (List.mem_cons_of_mem _ hb))
theorem cr_sortU (hu : X.A.units + 100 < cLine) : CallR X (.builtin "sorted") (rC1 X.prog X.w X.K sortD) := by
  rintro pins s σ H vs us Q I rv ⟨x, rfl, L, env, ah, d, r, hr, b, e, q⟩
  cases d <;> simp only [sortD, Option.ite_none_right_eq_some, Option.some.injEq] at e <;> try (cases e; done)
  rename_i xs
  obtain ⟨hs, rfl⟩ := e
  simp only [sortable, Bool.and_eq_true, Bool.or_eq_true, List.all_eq_true] at hs
  obtain ⟨⟨hf, hal⟩, hk⟩ := hs
  obtain ⟨a, ys, rfl, h1, h2⟩ := b
  obtain ⟨u, rfl, rx⟩ := vals1 rv
  cases rx
  obtain ⟨its, r', pl, hz⟩ := I.list (SqL.of h1)
  have hlen := r'.length
  have e := each_rds h2 r'
  have hz2 : its.length ≤ sizeLine := by omega
  have hAl : PySem.W.AllAlike (xs.map toP) := by
    intro d hd d' hd'
    obtain ⟨b, hb, rfl⟩ := List.mem_map.mp hd
    obtain ⟨b', hb', rfl⟩ := List.mem_map.mp hd'
    exact hal b hb b' hb'
  have reads : ∀ (h' : Heap), (∀ b o, s.heap.get? b = some o → h'.get? b = some o) → PySem.W.EachIs (fun v b => ∃ as, Reads h' v (toP b) as) its xs := fun h' kp =>
    each_mono' e fun v b hb ⟨z, k1, k2⟩ => by
      obtain ⟨as, k⟩ := reads2 (d := b) (n := 30) I hr.sub (RB.of hr.sub k1) k2 (flats_mem hf b hb)
      exact ⟨as, PyProof.Rows.Reads.keeps kp k⟩
  have er' := reads (PySem.W.sortingHeap (PySem.W.copyHeap s.heap its) (s.heap.objs.size + 1) its) fun b o => PySem.W.sorting_copy_old
  have em := PySem.W.each_map (R := fun v d => ∃ as, Reads (PySem.W.sortingHeap (PySem.W.copyHeap s.heap its) (s.heap.objs.size + 1) its) v d as) toP er'
  have room : ∀ d, d ∈ xs.map toP → X.A.in1.in1.units + d.depth < cLine := fun d hd => by
    obtain ⟨b, hb, rfl⟩ := List.mem_map.mp hd
    have := (plain_of_flat 30 b (flats_mem hf b hb)).2
    show X.A.units + 1 + 1 + (toP b).depth < cLine
    omega
  have S : PySem.W.SortsAt X.prog X.w X.A.in1.in1 { s with heap := PySem.W.sortingHeap (PySem.W.copyHeap s.heap its) (s.heap.objs.size + 1) its } (PySem.W.dataKind (PySem.W.sortingHeap (PySem.W.copyHeap s.heap its) (s.heap.objs.size + 1) its) (xs.map toP)) its := by
    rcases hk with hk | hk
    · refine us_sorts (s := { s with heap := PySem.W.sortingHeap (PySem.W.copyHeap s.heap its) (s.heap.objs.size + 1) its }) em hAl (fun d hd => ?_) room
      obtain ⟨b, hb, rfl⟩ := List.mem_map.mp hd
      have := hk b hb
      cases b <;> simp only [isTupD] at this <;> try (cases this; done)
      exact ⟨_, by rw [toP]⟩
    · refine PySem.W.SortsAt.data (s := { s with heap := PySem.W.sortingHeap (PySem.W.copyHeap s.heap its) (s.heap.objs.size + 1) its }) em hAl (.inr fun d hd => ?_) room
      obtain ⟨b, hb, rfl⟩ := List.mem_map.mp hd
      have := hk b hb
      cases b <;> simp only [isItem] at this <;> try (cases this; done)
      all_goals (rw [toP]; exact ⟨(fun z => nomatch z), (fun _ z => nomatch z)⟩)
  refine PySem.W.sorted_vals pl.isList S hz2 ?_
  have eo : PySem.W.EachIs (fun (u : Value) d => ∃ v, RD X.prog X.w X.K L d v ∧ RelV v u) _ (sortedL xs) := PySem.W.sortVals_data false e er' hAl
  obtain ⟨ws, w1, w2⟩ := rds_each eo
  generalize PySem.W.sortVals _ false its its = out at w2 eo ⊢
  obtain ⟨c, hc⟩ := PyProof.Rows.sortedAll_at s.heap its out.toArray
  have l1 : ws.length ≤ sizeLine := by
    rw [← w1.length]
    unfold sortedL
    rw [List.length_mergeSort, h2.length]
    exact hz
  refine ⟨.ref _, _, I.laid (t' := s.toks) (o := .lst ws) (fun _ _ => PyProof.Rows.sortedAll_old) (Nat.le_succ _) ⟨l1, out, c, w2, hc⟩, rfl, fin_lst hr w1 q _ (I.hok.fresh (Nat.le_succ _))⟩
end
end U

/-! U9: repr, dict(pairs); the table of built-in functions of one value. -/
namespace U
open PySem PySem.Spec PyProof.Rows L2
def reprD : O1 := fun d => if flat 30 d && (toP d).showable && decide ((toP d).shown.length ≤ big) then some (.v (.str (toP d).shown)) else none
mutual
theorem flat_nodict : ∀ (n : Nat) (d : D), flat n d = true → (toP d).hasDict = false
  | _, .non, _ => by simp [toP, PyData.hasDict]
  | _, .bl _, _ => by simp [toP, PyData.hasDict]
  | _, .int _, _ => by simp [toP, PyData.hasDict]
  | _, .str _, _ => by simp [toP, PyData.hasDict]
  | 0, .tup xs, h => by simp [flat] at h
  | 0, .lst xs, h => by simp [flat] at h
  | n + 1, .tup xs, h => by
    rw [flat] at h
    rw [toP, PyData.hasDict]
    exact flats_nodict n xs h
  | n + 1, .lst xs, h => by
    rw [flat] at h
    rw [toP, PyData.hasDict]
    exact flats_nodict n xs h
  | _, .dct _, h => by simp [flat] at h
  | _, .ref _, h => by simp [flat] at h
  | _, .scr _, h => by simp [flat] at h
  | _, .pr _, h => by simp [flat] at h
theorem flats_nodict : ∀ (n : Nat) (ds : List D), flats n ds = true → PyData.hasDictAll (toPs ds) = false
  | n, [], _ => by simp [toPs, PyData.hasDictAll]
  | n, d :: ds, h => by
    rw [flats, Bool.and_eq_true] at h
    rw [toPs, PyData.hasDictAll, flat_nodict n d h.1, flats_nodict n ds h.2]
    rfl
end
section
variable {X : Cx}
theorem cr_repr (hg : X.A.guards = some []) (hu : X.A.units + 100 < cLine) : CallR X (.builtin "repr") (rC1 X.prog X.w X.K reprD) := by
  rintro pins s σ H vs us Q I rv ⟨x, rfl, L, env, ah, d, r, hr, b, e, q⟩
  simp only [reprD, Option.ite_none_right_eq_some, Bool.and_eq_true, decide_eq_true_eq, Option.some.injEq] at e
  obtain ⟨⟨⟨hf, hs⟩, hz⟩, rfl⟩ := e
  have hz := Nat.le_trans hz big_line
  obtain ⟨u, rfl, rx⟩ := vals1 rv
  obtain ⟨as, rd⟩ := reads2 I hr.sub b rx hf
  have fin : ∀ {h' : Heap} {t tk : Tok}, (∀ b o, s.heap.get? b = some o → h'.get? b = some o) → EP X pins σ Q (.str (toP d).shown t) { s with heap := h', toks := tk } := fun kp =>
    ⟨.str (toP d).shown, H, I.kept kp, ⟨_, rfl⟩, fin_v hr (by rw [RD]) q⟩
  have fin0 : EP X pins σ Q (.str (toP d).shown s.toks) { s with toks := s.toks + 1 } := fin (h' := s.heap) fun _ _ e => e
  have deep := (plain_of_flat 30 d hf).2
  have ref : ∀ a, u = .ref a → wpAny (model X.prog X.w) X.A (call (.builtin "repr") [u]) (EP X pins σ Q) X.xe s := fun a ea => by
    subst ea
    exact PySem.repr_of_reads' rd hs (PyData.noDict_hsm (flat_nodict 30 d hf)) hg (by omega) (fun _ _ e => e) (fun h' u tk kp => fin kp) hz
  cases d with
  | non =>
    obtain rfl : x = .non := b
    cases rx
    refine PySem.P.repr_of_none ?_
    have := fin0
    rw [toP, PyData.shown] at this
    exact this
  | bl c =>
    obtain rfl : x = .bl c := b
    cases rx
    refine PySem.P.repr_of_bool ?_
    have := fin0
    rw [toP, PyData.shown] at this
    exact this
  | int i =>
    obtain rfl : x = .int i := b
    obtain ⟨t, rfl⟩ := rx
    rw [toP, PyData.showable, decide_eq_true_eq] at hs
    refine PySem.P.repr_of_int hs ?_
    have := fin0
    rw [toP, PyData.shown] at this
    exact this
  | str z =>
    obtain rfl : x = .str z := b
    obtain ⟨t, rfl⟩ := rx
    rw [toP, PyData.shown] at hz
    refine PySem.P.repr_of_str ?_ hz
    have := fin0
    rw [toP, PyData.shown] at this
    exact this
  | tup xs =>
    have b : RD X.prog X.w X.K L (.tup xs) x := b
    rw [RD] at b
    obtain ⟨a, ys, rfl, _⟩ := b
    exact ref a rx
  | lst xs =>
    obtain ⟨a, ys, rfl, _⟩ := b
    exact ref a rx
  | dct _ => simp [flat] at hf
  | ref _ => simp [flat] at hf
  | scr _ => simp [flat] at hf
  | pr _ => simp [flat] at hf
end

/-! ### dict(pairs), the keys tuples -/
def isN (k : D) : Bool := match kk k with
  | some (.n _) => true
  | _ => false
/- the entries that pairs give, one behind another -/
def dputs : List (D × D) → List D → Option (List (D × D))
  | kvs, [] => some kvs
  | kvs, .tup [k, v] :: r => if isN k then (dput kvs k v).bind fun kvs' => dputs kvs' r else none
  | _, _ => none
def dctD : O1
  | .tup xs => if xs.length ≤ big then (dputs [] xs).map fun kvs => .f (.dct kvs) else none
  | .lst xs => if xs.length ≤ big then (dputs [] xs).map fun kvs => .f (.dct kvs) else none
  | _ => none
section
variable {X : Cx} {pins : List (Addr × Obj)} {σ : L2.St} {H : Hp} {s : Shared} {L : Lay}
theorem dict_laid {h' : Heap} {tk : Nat} {kvs : List (D × D)} {xs : List (NestedKey × Addr × Value)} (I : Inv X pins σ H s) (kp : ∀ b o, s.heap.get? b = some o → h'.get? b = some o) (hx : h'.DictOfH (nestedKind X.prog X.w) s.heap.objs.size xs)
    (hh : RH X.prog X.w X.K L kvs xs) (hz : kvs.length ≤ sizeLine) : ∃ o, Inv X pins σ (upd H s.heap.objs.size o) { s with heap := h', toks := tk } ∧ ∀ H' : Hp, H' s.heap.objs.size = some o → Cel X.prog X.w X.K L H' s.heap.objs.size (.dct kvs) := by
  have hd : (s.heap.objs.size == sysModules) = false := beq_eq_false_iff_ne.mpr (Nat.ne_of_gt I.big)
  obtain ⟨o, es', ep, ho, hc, hdat, hes, _, hn⟩ := hx
  cases hh with
  | nil =>
    refine ⟨.dK [], I.laid kp (Nat.le_refl _) ⟨Nat.zero_le _, hd, [], .nil, o, es', ep, ho, hc, hdat, ?_, ?_, List.nodup_nil⟩, fun H' e => .inl ⟨[], e, by rw [RDk]⟩⟩
    · have e0 : es' = #[] := by
        have : es'.toList = [] := hes
        exact Array.toList_eq_nil_iff.mp this
      subst e0
      intro a ha
      simp at ha
    · rw [hes]
      exact .nil
  | @cons p q ps qs hp hq =>
    obtain ⟨es, r1, r2⟩ := rh_back (Paired.cons hp hq)
    have l3 := Paired.length r2
    have l4 : (p :: ps).length = (q :: qs).length := Paired.length (Paired.cons hp hq)
    have ne : es ≠ [] := fun z => by
      subst z
      simp at l3
    refine ⟨.ext (dphi X.prog X.w s.heap.objs.size es), I.laid kp (Nat.le_refl _) ⟨⟨hd, by rw [l3, ← l4]; exact hz, by rw [fst_eq r2]; exact hn, _, r2, o, es', ep, ho, hc, hdat, hes⟩, ⟨o, ho⟩, ?_⟩, fun H' e => .inr ⟨es, e, ne, r1⟩⟩
    rintro g1 g2 ⟨p1, p2, p3, ys, p4, o', e1, e2, p5, p6⟩ hg
    exact ⟨p1, p2, p3, ys, p4, o', e1, e2, hg _ p5, p6⟩
theorem dput_n {kvs kvs' : List (D × D)} {k v : D} (h : dput kvs k v = some kvs') (hk : isN k = true) : ∃ nk, kk k = some (.n nk) ∧ sameKind kvs (.n nk) = true ∧ kvs.length < big ∧ kvs' = putD kvs (.n nk) k v := by
  unfold isN at hk
  unfold dput at h
  split at h
  · rename_i u e
    rw [e] at hk
    cases u with
    | k _ => cases hk
    | n nk =>
      simp only [Option.ite_none_right_eq_some, Bool.and_eq_true, decide_eq_true_eq, Option.some.injEq] at h
      exact ⟨nk, e, h.1.1, h.1.2, h.2.symm⟩
  · cases h
theorem putD_len (kvs : List (D × D)) (u : KK) (k v : D) : (putD kvs u k v).length ≤ kvs.length + 1 := by
  unfold putD
  split
  · rw [List.length_map]; omega
  · rw [List.length_append]; simp
theorem pairs_of (I : Inv X pins σ H s) (e : Same L.F H) : ∀ {ds : List D} {vs : List V} {acc kvs : List (D × D)}, RDs X.prog X.w X.K L ds vs → dputs acc ds = some kvs →
    ∃ (ts : List Addr) (ps : List (NestedKey × Addr × Value)), vs = ts.map V.ref ∧ ts.length = ps.length ∧ (∀ (j : Nat) t p, ts[j]? = some t → ps[j]? = some p → PairAt s.heap t (.ref p.2.1) p.2.2) ∧
      (∀ p ∈ ps, (nestedKind X.prog X.w).is s.heap p.1 p.2.1) ∧ ∀ xs, RH X.prog X.w X.K L acc xs → RH X.prog X.w X.K L kvs (storedAllH xs ps)
  | [], _, acc, kvs, h, hd => by
    rw [RDs] at h
    subst h
    cases hd
    exact ⟨[], [], rfl, rfl, fun j t p h => by simp at h, fun p h => by simp at h, fun xs h => h⟩
  | d :: ds, _, acc, kvs, h, hd => by
    rw [RDs] at h
    obtain ⟨x, r, rfl, h1, h2⟩ := h
    unfold dputs at hd
    split at hd
    · rename_i hnil
      cases hnil
    · rename_i acc' k v r' hcons
      cases hcons
      simp only [Option.ite_none_right_eq_some, Option.bind_eq_some_iff] at hd
      obtain ⟨hk, kvs', hp, hd⟩ := hd
      obtain ⟨nk, k1, k2, k3, rfl⟩ := dput_n hp hk
      rw [RD] at h1
      obtain ⟨a, ws, rfl, t1, t2⟩ := h1
      rw [RDs] at t2
      obtain ⟨y, r1, rfl, y1, t2⟩ := t2
      rw [RDs] at t2
      obtain ⟨z, r2, rfl, z1, t2⟩ := t2
      rw [RDs] at t2
      subst t2
      obtain ⟨its, rv, p, _⟩ := I.tuple (sqT_same e t1)
      obtain ⟨uy, uz, rfl, ry, rz⟩ := rv.two
      obtain ⟨b, rfl⟩ := key_tup k1 y1
      cases ry
      obtain ⟨n1, n2, _⟩ := kk_n k1
      obtain ⟨ts, ps, rfl, q1, q2, q3, q4⟩ := pairs_of I e h2 hd
      refine ⟨a :: ts, (nk, b, uz) :: ps, rfl, by rw [List.length_cons, List.length_cons, q1], fun j t p' g1 g2 => ?_, fun p' hp' => ?_, fun xs hx => q4 _ (rh_put hx k1 y1 z1 rz)⟩
      · cases j with
        | zero =>
          cases g1
          cases g2
          exact .inl p
        | succ j => exact q2 j t p' g1 g2
      · rcases List.mem_cons.mp hp' with rfl | hp'
        · exact ⟨nested_is I e y1 n1 rfl, n2⟩
        · exact q3 p' hp'
    · cases hd
theorem dputs_len : ∀ {ds : List D} {acc kvs : List (D × D)}, dputs acc ds = some kvs → kvs.length ≤ acc.length + ds.length
  | [], acc, kvs, h => by cases h; simp
  | d :: ds, acc, kvs, h => by
    have go : ∀ (k v : D), (if isN k then (dput acc k v).bind fun kvs' => dputs kvs' ds else none) = some kvs → kvs.length ≤ acc.length + (ds.length + 1) := fun k v h => by
      simp only [Option.ite_none_right_eq_some, Option.bind_eq_some_iff] at h
      obtain ⟨hk, kvs', hp, hd⟩ := h
      obtain ⟨nk, k1, k2, k3, rfl⟩ := dput_n hp hk
      have := dputs_len hd
      have := putD_len acc (.n nk) k v
      omega
    unfold dputs at h
    split at h
    · rename_i hnil; cases hnil
    · rename_i hcons
      cases hcons
      exact go _ _ h
    · cases h
end
section
variable {X : Cx}
theorem cr_dctU (hc : X.calm = true) (hu : X.A.units + 100 < cLine) : CallR X (.type "dict") (rC1 X.prog X.w X.K dctD) := by
  rintro pins s σ H vs us Q I rv ⟨x, rfl, L, env, ah, d, r, hr, b, e, q⟩
  have done : ∀ {xs : List D} {kvs : List (D × D)} {a : Addr} {ys : List V} {its : List Value} {T : String} {fp wr : List Addr} {OK : Heap → Prop}, True → RDs X.prog X.w X.K L xs ys → dputs [] xs = some kvs → xs.length ≤ big → Vals ys its → us = [.ref a] → r = .f (.dct kvs) →
      (∀ (Ts : Nat → Addr) (ps : List (Value × Value)), PairItems s.heap its.toArray Ts ps → ∃ fp OK, PairArg X.prog X.w T a fp [] ps.length (PairRel ps) OK ∧ OK s.heap) → wpAny (model X.prog X.w) X.A (call (.type "dict") us) (EP X pins σ Q) X.xe s := by
    intro xs kvs a ys its T fp wr OK _ h2 hd hz r' hus hr' hP
    subst hus hr'
    obtain ⟨ts, ps, rfl, q1, q2, q3, q4⟩ := pairs_of I hr.sub h2 hd
    have l0 : its.length = ts.length := by rw [← r'.length, List.length_map]
    have its_eq : its = ts.map Value.ref := by
      refine List.ext_getElem? fun j => ?_
      rw [List.getElem?_map]
      cases g : ts[j]? with
      | none =>
        have := List.getElem?_eq_none_iff.mp g
        rw [List.getElem?_eq_none (by omega), Option.map_none]
      | some t =>
        obtain ⟨u, g2, ru⟩ := r'.get (i := j) (x := V.ref t) (by rw [List.getElem?_map, g]; rfl)
        rw [g2]
        cases ru
        rfl
    obtain ⟨fp, OK, P, ok⟩ := hP (fun j => ts.getD j 0) (ps.map fun p => (.ref p.2.1, p.2.2)) ⟨by simp [l0, q1], fun j k v hj => by
      rw [List.getElem?_map, Option.map_eq_some_iff] at hj
      obtain ⟨p, hp, e⟩ := hj
      cases e
      have hjl : j < ts.length := by rw [q1]; exact (List.getElem?_eq_some_iff.mp hp).1
      have ht : ts[j]? = some ts[j] := List.getElem?_eq_getElem hjl
      refine ⟨?_, ?_⟩
      · rw [its_eq]
        simp [ht, List.getD]
      · have := q2 j _ p ht hp
        simpa [List.getD, ht] using this⟩
    have lz := h2.length
    rw [List.length_map] at lz
    refine call_dict_pairsH (knd := nestedKind X.prog X.w) (ps := ps) (n := (ps.map fun p => ((Value.ref p.2.1, p.2.2) : Value × Value)).length) P (I.ok.hd hc) (by show X.A.units + 1 + 1 + 8 < cLine; omega) ok ⟨by simp, fun i key v hi => ?_⟩ (fun h' hk p hp => ?_) ?_ fun h' tk hx hk => ?_
    · obtain hi : (ps.map fun p => ((Value.ref p.2.1, p.2.2) : Value × Value))[i]? = some (key, v) := hi
      rw [List.getElem?_map, Option.map_eq_some_iff] at hi
      obtain ⟨p, hp, e⟩ := hi
      cases e
      exact ⟨p.1, p.2.1, hp, rfl⟩
    · exact nestedKind_stays.stays (fun b o vs n e _ => hk b o (Nat.ne_of_lt (Heap.lt_size e)) (by simp) e) (q3 p hp)
    · have := big_line
      rw [List.length_map]
      omega
    · have hl := dputs_len hd
      obtain ⟨o, I', ce⟩ := dict_laid (tk := tk) I (fun b o e => hk b o (by simp) e) hx (q4 [] .nil) (by have := big_line; simp at hl; omega)
      obtain ⟨hf, hl⟩ := hr.fresh (I.hok.fresh (Nat.le_refl s.heap.objs.size))
      refine ⟨.ref s.heap.objs.size, _, I', rfl, q L _ _ (Go.beside hr (I.hok.fresh (Nat.le_refl _))) ⟨_, rfl, ce _ upd_same, hf, hl, I.hok.fresh (Nat.le_refl _)⟩⟩
  cases d <;> simp only [dctD, Option.ite_none_right_eq_some, Option.map_eq_some_iff] at e <;> try (cases e; done)
  · rename_i xs
    obtain ⟨hz, kvs, hd, hr'⟩ := e
    have b : RD X.prog X.w X.K L (.tup xs) x := b
    rw [RD] at b
    obtain ⟨a, ys, rfl, h1, h2⟩ := b
    have h1 := tp_same hr.sub h1
    obtain ⟨its, r', pl, _⟩ := I.tuple h1.sq
    refine done (T := "tuple") (fp := []) (wr := []) (OK := fun _ => True) trivial h2 hd hz r' (by obtain ⟨u, rfl, rx⟩ := vals1 rv; cases rx; rfl) hr'.symm fun Ts ps hp => ⟨_, _, PairArg.tuple a its.toArray Ts ps, ?_, hp⟩
    obtain ⟨o, ho, hc', n, hdat⟩ := pl
    refine ⟨o, n, ho, hc', ?_, hdat⟩
    rcases h1 with ⟨o', e1, e2⟩ | ⟨o', its', n', e1, e2, e3, _⟩
    · have := (I.hok a _ e1).1
      rw [ho] at this
      cases this
      exact e2.1
    · have := I.kIn a o' e1
      rw [ho] at this
      cases this
      exact e3.1
  · rename_i xs
    obtain ⟨hz, kvs, hd, hr'⟩ := e
    obtain ⟨a, ys, rfl, h1, h2⟩ := b
    obtain ⟨its, r', pl, _⟩ := I.list (SqL.of h1)
    refine done (T := "list") (fp := []) (wr := []) (OK := fun _ => True) trivial h2 hd hz r' (by obtain ⟨u, rfl, rx⟩ := vals1 rv; cases rx; rfl) hr'.symm fun Ts ps hp => ⟨_, _, PairArg.list a its.toArray Ts ps, ?_, hp⟩
    obtain ⟨o, n, ho, hc', hdd, hdat⟩ := pl
    exact ⟨o, n, ho, hc', hdd, hdat⟩
end
end U

/-! U10: targets, what is walked. -/
namespace U
open PySem PySem.Spec PyProof.Rows L2
/- targets; nil and cons: the parts of a tuple of targets -/
inductive Tg where
  | nm (i : Nat) | tp (l : Tg) | nil | cons (a r : Tg)
  deriving DecidableEq
def parts : D → Option (List D)
  | .tup xs => some xs
  | .pr xs => some xs
  | _ => none
mutual
def bindT : Tg → D → Ev → Option Ev
  | .nm i, d, env => if i < env.length then some (env.set i (.va d)) else none
  | .tp l, d, env => (parts d).bind fun xs => bindTs l xs env
  | .nil, _, _ => none
  | .cons _ _, _, _ => none
def bindTs : Tg → List D → Ev → Option Ev
  | .nil, [], env => some env
  | .cons a r, x :: xs, env => (bindT a x env).bind fun env' => bindTs r xs env'
  | _, _, _ => none
end
def Tg.len : Tg → Nat
  | .cons _ r => r.len + 1
  | _ => 0
def tgIn : Tg → List Nat → Bool
  | .nm i, vs => decide (i ∈ vs)
  | .tp l, vs => tgIn l vs
  | .nil, _ => true
  | .cons a r, vs => tgIn a vs && tgIn r vs
section
variable {P : Program} {w : World} {K : PySem.W.Frag} {L : Lay} {env env' : Ev} {ah : AH} {H : Hp} {σ : L2.St}
theorem HR.less (hr : HR P w K L env ah H) (h : ∀ l d, at' env' ah l = some d → at' env ah l = some d) : HR P w K L env' ah H :=
  ⟨hr.k, fun l d e => hr.cell l d (h l d e), hr.sub, fun l l' d d' e e' => hr.inj l l' d d' (h l d e) (h l' d' e')⟩
theorem at_va {i : Nat} {d e : D} {l : Lc} (h : at' (env.set i (.va d)) ah l = some e) : at' env ah l = some e := by
  cases l with
  | inr n => exact h
  | inl j =>
    have h : (match (env.set i (.va d))[j]? with | some (Sl.ow d) => some d | _ => none) = some e := h
    by_cases hj : i = j
    · subst hj
      by_cases hl : i < env.length
      · rw [List.getElem?_set_self hl] at h; cases h
      · rw [List.getElem?_eq_none (by rw [List.length_set]; omega)] at h; cases h
    · rw [List.getElem?_set_ne hj] at h
      exact h
theorem SR.va {i : Nat} {d : D} {v : V} (s : SR P w K L env σ) (h : RD P w K L d v) : SR P w K L (env.set i (.va d)) (σ.set i (some v)) := by
  have hlen := s.len
  refine ⟨by rw [List.length_set, List.length_set]; exact hlen, fun j e he => ?_, fun j e he => ?_⟩
  · by_cases hj : i = j
    · subst hj
      by_cases hl : i < env.length
      · rw [List.getElem?_set_self hl] at he
        cases he
        exact ⟨v, List.getElem?_set_self (by rw [hlen]; exact hl), h⟩
      · rw [List.getElem?_eq_none (by rw [List.length_set]; omega)] at he; cases he
    · rw [List.getElem?_set_ne hj] at he ⊢
      exact s.val j e he
  · by_cases hj : i = j
    · subst hj
      by_cases hl : i < env.length
      · rw [List.getElem?_set_self hl] at he; cases he
      · rw [List.getElem?_eq_none (by rw [List.length_set]; omega)] at he; cases he
    · rw [List.getElem?_set_ne hj] at he ⊢
      exact s.own j e he
theorem Rl.va {i : Nat} {d : D} {v : V} (r : Rl P w K L env ah σ H) (h : RD P w K L d v) : Rl P w K L (env.set i (.va d)) ah (σ.set i (some v)) H :=
  ⟨r.hr.less fun _ _ => at_va, r.sr.va h⟩
theorem wipe_set {i : Nat} {v : Option V} : ∀ {vs : List Nat}, i ∈ vs → wipe (σ.set i v) vs = wipe σ vs
  | u :: vs, h => by
    have gen : ∀ {vs : List Nat}, i ∉ vs → wipe (σ.set i v) vs = (wipe σ vs).set i v := fun {vs} => by
      induction vs with
      | nil => exact fun _ => rfl
      | cons x xs ih =>
        intro hx
        simp only [List.mem_cons, not_or] at hx
        unfold wipe
        rw [ih hx.2, List.set_comm _ _ hx.1]
    unfold wipe
    by_cases hm : i ∈ vs
    · rw [wipe_set hm]
    · have hu : i = u := by
        rcases List.mem_cons.mp h with e | e
        · exact e
        · exact absurd e hm
      subst hu
      rw [gen hm, List.set_set]
end
variable (P : Program) (w : World) (K : PySem.W.Frag)
def TGo (t : Tg) : TG := fun v σ H Q => ∃ L env ah d env', Rl P w K L env ah σ H ∧ RD P w K L d v ∧ bindT t d env = some env' ∧ ∀ σ', Rl P w K L env' ah σ' H → (∀ vs, tgIn t vs = true → wipe σ' vs = wipe σ vs) → Q σ' H
def TGos (t : Tg) : TGs := fun vs σ H Q => ∃ L env ah ds env', Rl P w K L env ah σ H ∧ RDs P w K L ds vs ∧ bindTs t ds env = some env' ∧ ∀ σ', Rl P w K L env' ah σ' H → (∀ vs, tgIn t vs = true → wipe σ' vs = wipe σ vs) → Q σ' H
variable {P w K}
structure DG (X : Cx) (e : Expr) (t : Tg) : Prop where
  pg : PG X e (TGo X.prog X.w X.K t)
structure DGs (X : Cx) (es : List Expr) (t : Tg) : Prop where
  pg : PGs X es (TGos X.prog X.w X.K t)
section
variable {X : Cx}
theorem weakG {e : Expr} {t t' : TG} (h : PG X e t) (hw : ∀ v σ H Q, t' v σ H Q → t v σ H Q) : PG X e t' := ⟨fun pins s σ H v u Q I r q => h.run pins s σ H v u Q I r (hw v σ H Q q)⟩
theorem weakGs {e : List Expr} {t t' : TGs} (h : PGs X e t) (hw : ∀ v σ H Q, t' v σ H Q → t v σ H Q) : PGs X e t' := ⟨fun pins s σ H v u Q I r q => h.run pins s σ H v u Q I r (hw v σ H Q q)⟩
theorem dg_nm {i : Nat} {x : Str} {pos : Pos} (hN : X.N.Nodup) (hi : X.N[i]? = some x) (hx : Loc X.env.scope x) (hf : X.fn x = true ∨ X.env.scope.names.lookup x = some .local) : DG X (.Name x pos) (.nm i) :=
  ⟨weakG (pg_name hN hi hx hf) fun v σ H Q ⟨L, env, ah, d, env', R, h, b, q⟩ => by
    simp only [bindT, Option.ite_none_right_eq_some, Option.some.injEq] at b
    obtain ⟨hl, rfl⟩ := b
    exact q _ (R.va h) fun vs hv => wipe_set (by simpa [tgIn] using hv)⟩
theorem dgs_nil : DGs X [] .nil := ⟨weakGs pgs_nil fun v σ H Q ⟨L, env, ah, ds, env', R, h, b, q⟩ => by
  cases ds <;> simp only [bindTs] at b <;> try (cases b; done)
  cases b
  rw [RDs] at h
  exact ⟨h, q σ R fun _ _ => rfl⟩⟩
theorem dgs_cons {e : Expr} {es : List Expr} {a r : Tg} (h1 : DG X e a) (h2 : DGs X es r) (hs : (assignEach (e :: es) X.env).map (·.2) = assign e X.env :: (assignEach es X.env).map (·.2)) : DGs X (e :: es) (.cons a r) :=
  ⟨weakGs (pgs_cons h1.pg h2.pg hs) fun v σ H Q ⟨L, env, ah, ds, env', R, h, b, q⟩ => by
    cases ds <;> simp only [bindTs, Option.bind_eq_some_iff] at b <;> try (cases b; done)
    obtain ⟨env1, b1, b2⟩ := b
    rw [RDs] at h
    obtain ⟨x, xs, rfl, k1, k2⟩ := h
    refine ⟨x, xs, rfl, L, env, ah, _, env1, R, k1, b1, fun σ1 R1 w1 => ⟨L, env1, ah, _, env', R1, k2, b2, fun σ2 R2 w2 => q σ2 R2 fun vs hv => ?_⟩⟩
    rw [tgIn, Bool.and_eq_true] at hv
    rw [w2 vs hv.2, w1 vs hv.1]⟩
theorem bindTs_len : ∀ {t : Tg} {ds : List D} {env env' : Ev}, bindTs t ds env = some env' → ds.length = t.len
  | .nil, ds, env, env', h => by cases ds <;> simp only [bindTs] at h <;> first | rfl | cases h
  | .cons a r, [], env, env', h => by simp [bindTs] at h
  | .cons a r, x :: xs, env, env', h => by
    simp only [bindTs, Option.bind_eq_some_iff] at h
    obtain ⟨env1, b1, b2⟩ := h
    rw [List.length_cons, Tg.len, bindTs_len b2]
  | .nm _, ds, env, env', h => by simp [bindTs] at h
  | .tp _, ds, env, env', h => by simp [bindTs] at h
theorem dg_tp {es : List Expr} {k : Nat} {l : Tg} {pos : Pos} (hc : X.calm = true) (h : DGs X es l) (hn : (assignEach es X.env).length = l.len) (hst : (assignEach es X.env).findIdx? (·.1) = none) : DG X (.Tuple es k pos) (.tp l) :=
  ⟨weakG (pg_tup (n := l.len) hc h.pg hn hst) fun v σ H Q ⟨L, env, ah, d, env', R, h, b, q⟩ => by
    simp only [bindT, Option.bind_eq_some_iff] at b
    obtain ⟨xs, hp, b⟩ := b
    have go : ∀ a vs, v = .ref a → SqT X.K H a vs → RDs X.prog X.w X.K L xs vs → gTup X.K l.len (TGos X.prog X.w X.K l) v σ H Q := fun a vs e1 e2 e3 => by
      subst e1
      exact ⟨a, vs, rfl, e2, by rw [← e3.length]; exact bindTs_len b, L, env, ah, xs, env', R, e3, b, fun σ' R' wv => q σ' R' fun vs hv => wv vs hv⟩
    cases d <;> simp only [parts, Option.some.injEq] at hp <;> try (cases hp; done)
    · subst hp
      rw [RD] at h
      obtain ⟨a, vs, e1, e2, e3⟩ := h
      exact go a vs e1 (sqT_same R.hr.sub e2) e3
    · subst hp
      rw [RD] at h
      obtain ⟨a, vs, e1, e2, e3⟩ := h
      exact go a vs e1 (sq_same R.hr.sub e2) e3⟩
end

/-! ### what is walked -/
abbrev Gu := Option (Nat × D)
abbrev FI := Ev → AH → Option ((List D × Gu) × AH)
variable (P w K)
/- J walks the data ds, while the own list of a slot, if it is one, stays as it is -/
def WalkD (L : Lay) (gu : Gu) (ds : List D) (J : It) : Prop := ∃ G Y, Walk J ds.length G Y ∧ ∀ L1 env1 ah1 H1, Le L L1 → HR P w K L1 env1 ah1 H1 → (∀ i d, gu = some (i, d) → env1[i]? = some (Sl.ow d) ∧ L1.al i = L.al i) →
  G H1 ∧ ∀ i x H2, i < ds.length → Y i H1 x H2 → ∃ L2 d, Go P w K L1 env1 ah1 H1 L2 ah1 H2 ∧ ds[i]? = some d ∧ RD P w K L2 d x
def TIo (f : FI) : L2.TI := fun σ H R => ∃ L env ah, Rl P w K L env ah σ H ∧ ∃ ds gu ah', f env ah = some ((ds, gu), ah') ∧ ∀ L' J H', Go P w K L env ah H L' ah' H' → WalkD P w K L' gu ds J → (∀ i d, gu = some (i, d) → env[i]? = some (Sl.ow d)) → R J H'
variable {P w K}
structure DI (X : Cx) (tg e : Expr) (f : FI) : Prop where
  pi : PI X tg e (TIo X.prog X.w X.K f)
/- a list or a tuple -/
def iOf (f : FE) : FI := fun env ah => (f env ah).bind fun p => match p.1 with
  | .v (.lst xs) => some ((xs, none), p.2)
  | .v (.tup xs) => some ((xs, none), p.2)
  | .v (.scr xs) => some ((xs, none), p.2)
  | .f (.lst xs) => some ((xs, none), p.2)
  | .o i => match env[i]? with
    | some (Sl.ow (.lst xs)) => some ((xs, some (i, .lst xs)), p.2)
    | _ => none
  | _ => none
def rngD (lo : Int) (n : Nat) : List D := (List.range n).map fun (i : Nat) => .int (lo + (i : Nat))
def iRan1 (f : FA) : FI := fun env ah => (f env ah).bind fun p => match p.1 with
  | [.int j] => if j < 2 ^ 62 ∧ -(2 ^ 62) ≤ j then some ((rngD 0 j.toNat, none), p.2) else none
  | _ => none
def iRan2 (f : FA) : FI := fun env ah => (f env ah).bind fun p => match p.1 with
  | [.int i, .int j] => if -(2 ^ 62) ≤ i ∧ i < 2 ^ 62 ∧ -(2 ^ 62) ≤ j ∧ j < 2 ^ 62 then some ((rngD i (j - i).toNat, none), p.2) else none
  | _ => none
section
variable {X : Cx} {tg e : Expr}
theorem weakI {t t' : L2.TI} (h : PI X tg e t) (hw : ∀ σ H Q, t' σ H Q → t σ H Q) : PI X tg e t' := ⟨fun pins s σ H R I q => h.run pins s σ H R I (hw σ H R q)⟩
theorem PI.or {t t' : L2.TI} (h : PI X tg e t) (h' : PI X tg e t') : PI X tg e (fun σ H R => t σ H R ∨ t' σ H R) := ⟨fun pins s σ H R I q => by
  rcases q with q | q
  · exact h.run pins s σ H R I q
  · exact h'.run pins s σ H R I q⟩
theorem walk_at {L : Lay} {gu : Gu} {ds : List D} {vs : List V} {J : It} {G : Hp → Prop} (wk : Walk J vs.length G (YAt vs)) (h : RDs X.prog X.w X.K L ds vs)
    (hG : ∀ L1 env1 ah1 H1, Le L L1 → HR X.prog X.w X.K L1 env1 ah1 H1 → (∀ i d, gu = some (i, d) → env1[i]? = some (Sl.ow d) ∧ L1.al i = L.al i) → G H1) : WalkD X.prog X.w X.K L gu ds J := by
  refine ⟨G, YAt vs, by rw [h.length]; exact wk, fun L1 env1 ah1 H1 le hr hg => ⟨hG L1 env1 ah1 H1 le hr hg, fun i x H2 hi hy => ?_⟩⟩
  obtain ⟨rfl, hx⟩ := hy
  obtain ⟨d, h1, h2⟩ := h.getV hx
  exact ⟨L1, d, Go.refl hr, h1, h2.mono le⟩
theorem di_of {f : FE} (h : DE X e f) : DI X tg e (iOf f) := by
  refine ⟨weakI (PI.or (pi_list h) (pi_tup h)) fun σ H R ⟨L, env, ah, Rr, ds, gu, ah', e1, q⟩ => ?_⟩
  simp only [iOf, Option.bind_eq_some_iff] at e1
  obtain ⟨⟨r, ah1⟩, e1, e2⟩ := e1
  have lst : ∀ {xs : List D} {L' : Lay} {a : Addr} {vs : List V} {H' : Hp}, Go X.prog X.w X.K L env ah H L' ah' H' → L'.F a = some (.lst vs) → RDs X.prog X.w X.K L' xs vs → gu = none → xs = ds → ∃ b, V.ref a = .ref b ∧ (∃ ys, SqL X.K H' b ys) ∧ R (Itl X.K b) H' := by
    intro xs L' a vs H' g h1 h2 hg hx
    subst hg hx
    exact ⟨a, rfl, ⟨vs, SqL.of (g.hr.sub _ _ h1)⟩, q L' _ H' g (walk_at walk_list h2 fun L1 env1 ah1 H1 le hr _ => SqL.of (hr.sub _ _ (le.same _ _ h1))) (fun _ _ z => nomatch z)⟩
  cases r with
  | v d =>
    cases d <;> simp only at e2 <;> try (cases e2; done)
    · cases e2
      refine .inr ⟨L, env, ah, Rr, _, _, e1, fun L' x H' g w1 => ?_⟩
      have w1 : RD X.prog X.w X.K L' (.tup _) x := w1
      rw [RD] at w1
      obtain ⟨a, vs, rfl, h1, h2⟩ := w1
      exact ⟨a, rfl, ⟨vs, sqT_same g.hr.sub h1⟩, q L' _ H' g (walk_at walk_tup h2 fun L1 env1 ah1 H1 le hr _ => sqT_same hr.sub (tp_same le.same h1)) (fun _ _ z => nomatch z)⟩
    · cases e2
      refine .inl ⟨L, env, ah, Rr, _, _, e1, fun L' x H' g w1 => ?_⟩
      have w1 : RD X.prog X.w X.K L' (.lst _) x := w1
      rw [RD] at w1
      obtain ⟨a, vs, rfl, h1, h2⟩ := w1
      exact lst g h1 h2 rfl rfl
    · cases e2
      refine .inl ⟨L, env, ah, Rr, _, _, e1, fun L' x H' g w1 => ?_⟩
      have w1 : RD X.prog X.w X.K L' (.scr _) x := w1
      rw [RD] at w1
      obtain ⟨a, vs, rfl, h1, h2⟩ := w1
      exact ⟨a, rfl, ⟨vs, g.hr.sub.seq h1⟩, q L' _ H' g (walk_at walk_list h2 fun L1 env1 ah1 H1 le hr _ => hr.sub.seq (le.same.seq h1)) (fun _ _ z => nomatch z)⟩
  | f d =>
    cases d <;> simp only at e2 <;> try (cases e2; done)
    cases e2
    refine .inl ⟨L, env, ah, Rr, _, _, e1, fun L' x H' g w1 => ?_⟩
    obtain ⟨L2, g2, h2⟩ := RW.val (d := .lst ds) g w1 rfl
    rw [RD] at h2
    obtain ⟨a, vs, rfl, h1, h2⟩ := h2
    exact lst g2 h1 h2 rfl rfl
  | o i =>
    simp only at e2
    split at e2
    · rename_i xs he
      cases e2
      refine .inl ⟨L, env, ah, Rr, _, _, e1, fun L' x H' g w1 => ?_⟩
      obtain ⟨rfl, _⟩ := w1
      have hc := (g.hr.cell (.inl i) (.lst ds) (by show (match env[i]? with | some (Sl.ow d) => some d | _ => none) = _; rw [he])).1
      obtain ⟨vs, h1, h2⟩ := hc
      refine ⟨_, rfl, ⟨vs, SqL.of h1⟩, ?_⟩
      refine q L' _ H' g ?_ (fun j d z => by cases z; exact he)
      refine ⟨fun H1 => ∃ vs1, H1 (L'.al i) = some (.lst vs1) ∧ vs1.length = ds.length, fun j H1 x H2 => H2 = H1 ∧ ∃ vs1, H1 (L'.al i) = some (.lst vs1) ∧ vs1[j]? = some x, ⟨fun j H1 hj ⟨vs1, k1, k2⟩ => ⟨vs1, vs1[j]'(by omega), SqL.of k1, by simp [k2, hj]⟩, fun H1 ⟨vs1, k1, k2⟩ => ⟨vs1, SqL.of k1, by omega⟩, fun j H1 x H2 hj ⟨vs1, k1, k2⟩ y => ⟨y.1, vs1, k1, y.2 vs1 (SqL.of k1)⟩⟩, fun L1 env1 ah1 H1 le hr hg => ?_⟩
      obtain ⟨g1, g2⟩ := hg i _ rfl
      have hc1 := (hr.cell (.inl i) (.lst ds) (by show (match env1[i]? with | some (Sl.ow d) => some d | _ => none) = _; rw [g1])).1
      obtain ⟨vs1, k1, k2⟩ := hc1
      have k1 : H1 (L1.al i) = some (.lst vs1) := k1
      rw [g2] at k1
      refine ⟨⟨vs1, k1, k2.length.symm⟩, fun j x H2 hj hy => ?_⟩
      obtain ⟨rfl, vs2, m1, m2⟩ := hy
      rw [k1] at m1
      cases m1
      obtain ⟨d, n1, n2⟩ := k2.getV m2
      exact ⟨L1, d, Go.refl hr, n1, n2⟩
    · cases e2
theorem rng_walk {L : Lay} {lo : Int} {n : Nat} : WalkD X.prog X.w X.K L none (rngD lo n) (Itr lo n) := by
  refine ⟨_, _, by rw [rngD, List.length_map, List.length_range]; exact walk_range, fun L1 env1 ah1 H1 le hr hg => ⟨trivial, fun i x H2 hi hy => ?_⟩⟩
  obtain ⟨rfl, rfl⟩ := hy
  rw [rngD, List.length_map, List.length_range] at hi
  refine ⟨L1, .int (lo + (i : Nat)), Go.refl hr, ?_, by rw [RD]⟩
  rw [rngD, List.getElem?_map, List.getElem?_range hi]
  rfl
theorem di_ran1 {a : Expr} {f : FA} {p pos : Pos} (hg : Gl X "range") (hm : X.mg "range" = none) (ha : DA X [a] f) (hs : starEach [a] X.env = [(false, eval a X.env)]) : DI X tg (.Call (.Name "range" p) [a] [] pos) (iRan1 f) := by
  refine ⟨weakI (pi_range1 hg hm ha hs) fun σ H R ⟨L, env, ah, Rr, ds, gu, ah', e1, q⟩ => ?_⟩
  simp only [iRan1, Option.bind_eq_some_iff] at e1
  obtain ⟨⟨xs, ah1⟩, e1, e2⟩ := e1
  split at e2
  · rename_i j e3
    simp only [Option.ite_none_right_eq_some, Option.some.injEq, Prod.mk.injEq] at e2
    obtain ⟨⟨b1, b2⟩, ⟨rfl, rfl⟩, rfl⟩ := e2
    have e3 : xs = [.int j] := e3
    subst e3
    refine ⟨L, env, ah, Rr, _, _, e1, fun L' vs H' g w1 => ⟨j, ?_, b2, b1, q L' _ H' g rng_walk (fun _ _ z => nomatch z)⟩⟩
    rw [RDs] at w1
    obtain ⟨v, r, rfl, h1, h2⟩ := w1
    rw [RDs] at h2
    rw [RD] at h1
    rw [h1, h2]
  · cases e2
theorem di_ran2 {a b : Expr} {f : FA} {p pos : Pos} (hg : Gl X "range") (hm : X.mg "range" = none) (ha : DA X [a, b] f) (hs : starEach [a, b] X.env = [(false, eval a X.env), (false, eval b X.env)]) (hs2 : starEach [b] X.env = [(false, eval b X.env)]) :
    DI X tg (.Call (.Name "range" p) [a, b] [] pos) (iRan2 f) := by
  refine ⟨weakI (pi_range2 hg hm ha hs hs2) fun σ H R ⟨L, env, ah, Rr, ds, gu, ah', e1, q⟩ => ?_⟩
  simp only [iRan2, Option.bind_eq_some_iff] at e1
  obtain ⟨⟨xs, ah1⟩, e1, e2⟩ := e1
  split at e2
  · rename_i i j e3
    simp only [Option.ite_none_right_eq_some, Option.some.injEq, Prod.mk.injEq] at e2
    obtain ⟨bb, ⟨rfl, rfl⟩, rfl⟩ := e2
    have e3 : xs = [.int i, .int j] := e3
    subst e3
    refine ⟨L, env, ah, Rr, _, _, e1, fun L' vs H' g w1 => ⟨i, j, ?_, bb, q L' _ H' g rng_walk (fun _ _ z => nomatch z)⟩⟩
    rw [RDs] at w1
    obtain ⟨v, r, rfl, h1, h2⟩ := w1
    rw [RDs] at h2
    obtain ⟨v2, r2, rfl, h3, h4⟩ := h2
    rw [RDs] at h4
    rw [RD] at h1 h3
    rw [h1, h3, h4]
  · cases e2
end
end U

/-! U11: list comprehensions. -/
namespace U
open PySem PySem.Spec PyProof.Rows L2
def wipeE (env : Ev) : List Nat → Ev
  | [] => env
  | v :: vs => (wipeE env vs).set v .un
def isOw (env : Ev) (i : Nat) : Bool := match env[i]? with
  | some (.ow _) => true
  | _ => false
def noOw (env : Ev) (vs : List Nat) : Bool := vs.all fun i => !isOw env i
section
variable {P : Program} {w : World} {K : PySem.W.Frag} {L L1 : Lay} {env env' : Ev} {ah ah1 : AH} {H H1 : Hp} {σ : L2.St}
/- the same own places -/
def EqA (env env' : Ev) : Prop := ∀ ah l, at' env ah l = at' env' ah l
theorem EqA.refl (env : Ev) : EqA env env := fun _ _ => rfl
theorem EqA.symm (h : EqA env env') : EqA env' env := fun a l => (h a l).symm
theorem EqA.trans {env2 : Ev} (h : EqA env env') (h' : EqA env' env2) : EqA env env2 := fun a l => (h a l).trans (h' a l)
theorem eqA_set {i : Nat} {x : Sl} (h : isOw env i = false) (hx : ∀ d, x ≠ .ow d) : EqA (env.set i x) env := fun ah l => by
  cases l with
  | inr n => rfl
  | inl j =>
    show (match (env.set i x)[j]? with | some (Sl.ow d) => some d | _ => none) = (match env[j]? with | some (Sl.ow d) => some d | _ => none)
    by_cases hj : i = j
    · subst hj
      unfold isOw at h
      by_cases hl : i < env.length
      · rw [List.getElem?_set_self hl]
        have e1 : (match env[i]? with | some (Sl.ow d) => some d | _ => none) = none := by
          split
          · rename_i d he
            rw [he] at h
            cases h
          · rfl
        rw [e1]
        cases x with
        | un => rfl
        | va d => rfl
        | ow d => exact absurd rfl (hx d)
      · rw [List.getElem?_eq_none (by rw [List.length_set]; omega), List.getElem?_eq_none (by omega)]
    · rw [List.getElem?_set_ne hj]
theorem isOw_set {i j : Nat} {x : Sl} (h : isOw env j = false) (hx : ∀ d, x ≠ .ow d) : isOw (env.set i x) j = false := by
  unfold isOw at h ⊢
  by_cases hj : i = j
  · subst hj
    by_cases hl : i < env.length
    · rw [List.getElem?_set_self hl]
      cases x with
      | un => rfl
      | va d => rfl
      | ow d => exact absurd rfl (hx d)
    · rw [List.getElem?_eq_none (by rw [List.length_set]; omega)]
  · rw [List.getElem?_set_ne hj]
    exact h
theorem noOw_iff {vs : List Nat} : noOw env vs = true ↔ ∀ i ∈ vs, isOw env i = false := by
  simp [noOw]
theorem wipeE_ok : ∀ {vs us : List Nat}, noOw env vs = true → noOw env us = true → EqA (wipeE env vs) env ∧ noOw (wipeE env vs) us = true
  | [], us, _, h => ⟨EqA.refl _, h⟩
  | v :: vs, us, h, hu => by
    rw [noOw_iff] at h
    have h1 : noOw env vs = true := noOw_iff.mpr fun i hi => h i (List.mem_cons_of_mem _ hi)
    have hv : noOw env [v] = true := noOw_iff.mpr fun i hi => h i (by simp at hi; subst hi; exact List.mem_cons_self)
    obtain ⟨a1, a2⟩ := wipeE_ok h1 hv
    obtain ⟨_, a4⟩ := wipeE_ok h1 hu
    have q := noOw_iff.mp a2 v (by simp)
    refine ⟨(eqA_set q (by intro d z; cases z)).trans a1, noOw_iff.mpr fun i hi => ?_⟩
    exact isOw_set (noOw_iff.mp a4 i hi) (by intro d z; cases z)
theorem wipeE_length : ∀ vs : List Nat, (wipeE env vs).length = env.length
  | [] => rfl
  | v :: vs => by rw [wipeE, List.length_set, wipeE_length vs]
theorem SR.un {i : Nat} (s : SR P w K L env σ) : SR P w K L (env.set i .un) (σ.set i none) := by
  have hlen := s.len
  refine ⟨by rw [List.length_set, List.length_set]; exact hlen, fun j e he => ?_, fun j e he => ?_⟩
  all_goals
    by_cases hj : i = j
    · subst hj
      by_cases hl : i < env.length
      · rw [List.getElem?_set_self hl] at he; cases he
      · rw [List.getElem?_eq_none (by rw [List.length_set]; omega)] at he; cases he
    · rw [List.getElem?_set_ne hj] at he ⊢
      first | exact s.val j e he | exact s.own j e he
theorem SR.wipe (s : SR P w K L env σ) : ∀ vs : List Nat, SR P w K L (wipeE env vs) (L2.wipe σ vs)
  | [] => s
  | v :: vs => by
    rw [wipeE, L2.wipe]
    exact (SR.wipe s vs).un
theorem wipe_wipe : ∀ vs : List Nat, wipe (wipe σ vs) vs = wipe σ vs := fun vs => by
  refine List.ext_getElem? fun i => ?_
  have nil : ∀ {τ : L2.St} {vs : List Nat}, i ∈ vs → (wipe τ vs)[i]? = if i < τ.length then some none else none := fun {τ vs} => by
    induction vs with
    | nil => exact fun h => by simp at h
    | cons v vs ih =>
      intro h
      rw [wipe]
      by_cases e : v = i
      · subst e
        by_cases hl : v < τ.length
        · rw [List.getElem?_set_self (by rw [wipe_length]; exact hl), if_pos hl]
        · rw [List.getElem?_eq_none (by rw [List.length_set, wipe_length]; omega), if_neg hl]
      · rw [List.getElem?_set_ne e]
        exact ih (by rcases List.mem_cons.mp h with z | z; exact absurd z.symm e; exact z)
  by_cases h : i ∈ vs
  · rw [nil h, nil h, wipe_length]
  · rw [wipe_out h]
theorem HR.eqv (e : EqA env env') (h : HR P w K L env ah H) : HR P w K L env' ah H := h.less fun l d q => by rw [e]; exact q
theorem Stp.eqv (e : EqA env env') (h : Stp L env ah H L1 env ah1 H1) : Stp L env' ah H L1 env' ah1 H1 :=
  ⟨h.le, fun a o h1 h2 => h.frm a o h1 fun l d q => h2 l d (by rw [← e]; exact q), fun l d q => by
    rcases h.liv l d (by rw [e]; exact q) with ⟨l0, d0, q1, q2⟩ | q
    · exact .inl ⟨l0, d0, by rw [← e]; exact q1, q2⟩
    · exact .inr q, fun a o q => by
    rcases h.frz a o q with q | q | ⟨l0, d0, q1, q2⟩
    · exact .inl q
    · exact .inr (.inl q)
    · exact .inr (.inr ⟨l0, d0, by rw [← e]; exact q1, q2⟩)⟩
theorem Go.eqv (e : EqA env env') (h : Go P w K L env ah H L1 ah1 H1) : Go P w K L env' ah H L1 ah1 H1 := ⟨h.stp.eqv e, h.hr.eqv e, h.al⟩
theorem Go.poke {p : Addr} {o : HO} (g : Go P w K L env ah H L1 ah1 H1) (hp : H p = none) (hF : L1.F p = none) (hl : ∀ l d, at' env ah1 l = some d → L1.ad l ≠ p) : Go P w K L env ah H L1 ah1 (upd H1 p o) :=
  ⟨⟨g.stp.le, fun a u h1 h2 => by rw [upd_ne (ne_of_none h1 hp)]; exact g.stp.frm a u h1 h2, g.stp.liv, g.stp.frz⟩,
    ⟨g.hr.k, fun l d h => ⟨(g.hr.cell l d h).1.at (upd_ne (hl l d h)), (g.hr.cell l d h).2⟩, fun a u h => by
      rw [upd_ne (ne_of_none h hF)]
      exact g.hr.sub a u h, g.hr.inj⟩, g.al⟩
mutual
theorem bindT_ok : ∀ {t : Tg} {d : D} {env env' : Ev} {vs : List Nat}, bindT t d env = some env' → tgIn t vs = true → noOw env vs = true → EqA env' env ∧ noOw env' vs = true
  | .nm i, d, env, env', vs, h, ht, hn => by
    simp only [bindT, Option.ite_none_right_eq_some, Option.some.injEq] at h
    obtain ⟨_, rfl⟩ := h
    have hi : i ∈ vs := by simpa [tgIn] using ht
    have hn := noOw_iff.mp hn
    exact ⟨eqA_set (hn i hi) (by intro d z; cases z), noOw_iff.mpr fun j hj => isOw_set (hn j hj) (by intro d z; cases z)⟩
  | .tp l, d, env, env', vs, h, ht, hn => by
    simp only [bindT, Option.bind_eq_some_iff] at h
    obtain ⟨xs, _, h⟩ := h
    rw [tgIn] at ht
    exact bindTs_ok h ht hn
  | .nil, d, env, env', vs, h, ht, hn => by simp [bindT] at h
  | .cons _ _, d, env, env', vs, h, ht, hn => by simp [bindT] at h
theorem bindTs_ok : ∀ {t : Tg} {ds : List D} {env env' : Ev} {vs : List Nat}, bindTs t ds env = some env' → tgIn t vs = true → noOw env vs = true → EqA env' env ∧ noOw env' vs = true
  | .nil, [], env, env', vs, h, ht, hn => by
    simp only [bindTs, Option.some.injEq] at h
    subst h
    exact ⟨EqA.refl _, hn⟩
  | .nil, _ :: _, env, env', vs, h, ht, hn => by simp [bindTs] at h
  | .cons a r, [], env, env', vs, h, ht, hn => by simp [bindTs] at h
  | .cons a r, x :: xs, env, env', vs, h, ht, hn => by
    simp only [bindTs, Option.bind_eq_some_iff] at h
    obtain ⟨env1, b1, b2⟩ := h
    rw [tgIn, Bool.and_eq_true] at ht
    obtain ⟨e1, n1⟩ := bindT_ok b1 ht.1 hn
    obtain ⟨e2, n2⟩ := bindTs_ok b2 ht.2 n1
    exact ⟨e2.trans e1, n2⟩
  | .nm _, ds, env, env', vs, h, ht, hn => by simp [bindTs] at h
  | .tp _, ds, env, env', vs, h, ht, hn => by simp [bindTs] at h
end
end
/-! ### [e for t in it if c] -/
def bYes : FB := fun _ ah => some (true, ah)
def lcGo (t : Tg) (c : FB) (e : FV) (env0 : Ev) : List D → AH → Option (List D × AH)
  | [], ah => some ([], ah)
  | d :: ds, ah => (bindT t d env0).bind fun env => (c env ah).bind fun p => if p.1 then (e env p.2).bind fun q => (lcGo t c e env0 ds q.2).map fun r => (q.1 :: r.1, r.2) else lcGo t c e env0 ds p.2
def sLc (it : FI) (t : Tg) (vs : List Nat) (c : FB) (e : FV) : FE := fun env ah => (it env ah).bind fun p => if tgIn t vs && noOw env vs && decide (p.1.1.length ≤ big) then (lcGo t c e (wipeE env vs) p.1.1 p.2).map fun q => (.f (.lst q.1), q.2) else none
theorem lcGo_length {t : Tg} {c : FB} {e : FV} {env0 : Ev} : ∀ {ds : List D} {ah ah' : AH} {ys : List D}, lcGo t c e env0 ds ah = some (ys, ah') → ys.length ≤ ds.length
  | [], ah, ah', ys, h => by cases h; exact Nat.le_refl _
  | d :: ds, ah, ah', ys, h => by
    simp only [lcGo, Option.bind_eq_some_iff] at h
    obtain ⟨env1, b, ⟨y, ah1⟩, h1, h2⟩ := h
    cases y with
    | true =>
      simp only [if_true, Option.bind_eq_some_iff, Option.map_eq_some_iff] at h2
      obtain ⟨⟨x, ah2⟩, h3, ⟨xs, ah3⟩, h4, h5⟩ := h2
      cases h5
      exact Nat.succ_le_succ (lcGo_length h4)
    | false =>
      simp only [Bool.false_eq_true, if_false] at h2
      exact Nat.le_succ_of_le (lcGo_length h2)
section
variable {P : Program} {w : World} {K : PySem.W.Frag} {it : FI} {t : Tg} {vs : List Nat} {c : FB} {e : FV} {σ : L2.St} {H : Hp} {Q : VK}
theorem te_lc (T : TE P w K (sLc it t vs c e) σ H Q) : tLc (TIo P w K it) (TGo P w K t) (TB P w K c) (TV P w K e) vs σ H Q := by
  obtain ⟨L, env, ah, R, r, ah', e1, q⟩ := T
  simp only [sLc, Option.bind_eq_some_iff, Option.ite_none_right_eq_some, Bool.and_eq_true, decide_eq_true_eq, Option.map_eq_some_iff] at e1
  obtain ⟨⟨⟨ds, gu⟩, ah1⟩, e1, ⟨⟨hty, hno⟩, hz⟩, ⟨ys, ah2⟩, e2, e3⟩ := e1
  cases e3
  obtain ⟨eq0, no0⟩ := wipeE_ok hno hno
  refine ⟨L, env, ah, R, ds, gu, ah1, e1, fun L1 J H1 g1 ⟨G, Y, wk, hw⟩ hgu D hD => ?_⟩
  refine lc_it wk (fun i Hc => ∃ L2 ahc xs zs, Go P w K L1 env ah1 H1 L2 ahc Hc ∧ RW P w K H1 L2 env ahc Hc (.f (.lst xs)) (.ref D) ∧ lcGo t c e (wipeE env vs) (ds.drop i) ahc = some (zs, ah2) ∧ ys = xs ++ zs ∧ xs.length ≤ i) ?_ ?_ ?_ ?_
  · obtain ⟨hf, hl⟩ := g1.hr.fresh hD
    exact ⟨L1, ah1, [], ys, Go.beside g1.hr hD, ⟨D, rfl, ⟨[], upd_same, RDs.nil⟩, hf, hl, hD⟩, by rw [List.drop_zero]; exact e2, rfl, Nat.le_refl _⟩
  · rintro i Hc _ ⟨L2, ahc, xs, zs, g, _⟩
    exact (hw L2 env ahc Hc g.stp.le g.hr fun j d z => ⟨hgu j d z, by rw [g.al]⟩).1
  · rintro i x Hc Hx hi ⟨L2, ahc, xs, zs, g, rw1, go, hy, hlen⟩ hyl
    obtain ⟨L3, d, g3, hd, hx⟩ := (hw L2 env ahc Hc g.stp.le g.hr fun j d z => ⟨hgu j d z, by rw [g.al]⟩).2 i x Hx hi hyl
    rw [List.drop_eq_getElem_cons hi] at go
    have hd' : ds[i] = d := by rw [List.getElem?_eq_getElem hi] at hd; exact Option.some.inj hd
    rw [hd'] at go
    simp only [lcGo, Option.bind_eq_some_iff] at go
    obtain ⟨env1, b1, ⟨b, ahb⟩, c1, go⟩ := go
    obtain ⟨eq1, no1⟩ := bindT_ok b1 hty no0
    have eqe : EqA env1 env := eq1.trans eq0
    have gg := g.trans g3
    have rl0 : Rl P w K L3 (wipeE env vs) ahc (wipe σ vs) Hx := ⟨gg.hr.eqv eq0.symm, ((R.sr.mono g1.stp.le g1.al).mono gg.stp.le gg.al).wipe vs⟩
    refine ⟨L3, wipeE env vs, ahc, d, env1, rl0, hx, b1, fun σ2 R2 wv => ⟨(wv vs hty).trans (wipe_wipe vs), L3, env1, ahc, R2, b, ahb, c1, fun L4 H4 g4 => ?_⟩⟩
    have g4' := g4.eqv eqe
    cases b with
    | false =>
      simp only [Bool.false_eq_true, if_false] at go ⊢
      exact ⟨L4, ahb, xs, zs, gg.trans g4', (rw1.go g3).go g4', go, hy, Nat.le_succ_of_le hlen⟩
    | true =>
      simp only [if_true, Option.bind_eq_some_iff, Option.map_eq_some_iff] at go
      obtain ⟨⟨y, ahy⟩, c2, ⟨zs2, ahz⟩, c3, c4⟩ := go
      cases c4
      simp only [if_true]
      refine ⟨L4, env1, ahb, R2.go g4, y, ahy, c2, fun L5 v H5 g5 hv => ?_⟩
      have g5' := g5.eqv eqe
      have rw5 := ((rw1.go g3).go g4').go g5'
      obtain ⟨D', ed, ⟨acc, ha, hr⟩, hf, hl, h0⟩ := rw5
      cases ed
      have hl1 : acc.length = xs.length := hr.length.symm
      have hz : ds.length ≤ big := hz
      refine ⟨acc, ha, by have := big_line; omega, ?_⟩
      have g6 := ((gg.trans g4').trans g5').poke (o := .lst (acc ++ [v])) hD hf hl
      refine ⟨L5, ahy, xs ++ [y], zs2, g6, ⟨D, rfl, ⟨acc ++ [v], upd_same, hr.append (RDs.one hv)⟩, hf, hl, hD⟩, c3, by rw [hy]; simp, by rw [List.length_append]; simp; omega⟩
  · rintro Hc ⟨L2, ahc, xs, zs, g, rw1, go, hy, _⟩
    rw [List.drop_length] at go
    cases go
    rw [List.append_nil] at hy
    subst hy
    exact q L2 _ Hc (g1.trans g) (RW.back R.hr g1 rw1)
end
section
variable {X : Cx}
theorem pts_no : PTs X [] (TB X.prog X.w X.K bYes) := ⟨fun pins s σ H Q I ⟨L, env, ah, R, b, ah', e, q⟩ => by
  cases e
  exact pts_nil.run pins s σ H Q I (q L H (Go.refl R.hr))⟩
theorem de_lc {elt tg iter : Expr} {ifs : List Expr} {scope : Scope} {own : List (Str × Nat)} {pos : Pos} {it : FI} {t : Tg} {c : FB} {e : FV} (hc : X.calm = true) (hN : X.N.Nodup) (hi : DI X tg iter it) (ok : BlkOk X.N X.env.scope scope own)
    (hg : ∀ (s : Shared) (H : Hp) (C : Addr) (cl : List (Str × Addr)) (fp : List Addr), DG (X.blk s H scope (compEnvC scope cl C X.env) fp) tg t)
    (ht : ∀ (s : Shared) (H : Hp) (C : Addr) (cl : List (Str × Addr)) (fp : List Addr), PTs (X.blk s H scope (compEnvC scope cl C X.env) fp) ifs (TB X.prog X.w X.K c))
    (he : ∀ (s : Shared) (H : Hp) (C : Addr) (cl : List (Str × Addr)) (fp : List Addr), DV (X.blk s H scope (compEnvC scope cl C X.env) fp) elt e) (hs : ∀ x, foldedSetIterable iter X.env x = pure x) :
    DE X (.ListComp elt [⟨tg, iter, ifs, 0⟩] scope pos) (sLc it t (own.map (·.2)) c e) :=
  weakE (pe_lc hc hN hi.pi ok (fun s H C cl fp => (hg s H C cl fp).pg) ht he hs) fun _ _ _ T => te_lc T
end
end U

/-! U12: statements: sequence, if, for, return, assignment. -/
namespace U
open PySem PySem.Spec PyProof.Rows L2
inductive Out where
  | nx (env : Ev) (ah : AH) | rt (r : Rw) (ah : AH)
abbrev FS := Ev → AH → Option Out
section
variable (P : Program) (w : World) (K : PySem.W.Frag)
/- nobody's at the start, or a slot's own -/
def Fr (L : Lay) (env : Ev) (H : Hp) (a : Addr) : Prop := H a = none ∨ ∃ i d, env[i]? = some (Sl.ow d) ∧ L.al i = a
/- a returned value -/
def RT (L : Lay) (env : Ev) (H : Hp) (L' : Lay) (ah' : AH) (H' : Hp) : Rw → V → Prop
  | .v d, x => RD P w K L' d x
  | .f d, x => ∃ a, x = .ref a ∧ Cel P w K L' H' a d ∧ L'.F a = none ∧ (∀ l e, at' [] ah' l = some e → L'.ad l ≠ a) ∧ Fr L env H a
  | .o _, _ => False
/- where a statement ends -/
def Fin (Z : Ends) (L : Lay) (env : Ev) (ah : AH) (H : Hp) : Out → Prop
  | .nx env' ah' => ∀ L' σ' H', Stp L env ah H L' env' ah' H' → Rl P w K L' env' ah' σ' H' → Z.nx σ' H'
  | .rt r ah' => ∀ L' v H', Stp L env ah H L' [] ah' H' → HR P w K L' [] ah' H' → RT P w K L env H L' ah' H' r v → Z.rt v H'
def TSt (f : FS) : L2.TS := fun Z σ H => ∃ L env ah, Rl P w K L env ah σ H ∧ ∃ o, f env ah = some o ∧ Fin P w K Z L env ah H o
end
section
variable {P : Program} {w : World} {K : PySem.W.Frag} {L L1 : Lay} {env env1 : Ev} {ah ah1 : AH} {H H1 : Hp} {σ : L2.St} {Z : Ends}
theorem own_at {i : Nat} {d : D} (h : env[i]? = some (Sl.ow d)) : at' env ah (.inl i) = some d := by
  show (match env[i]? with | some (Sl.ow d) => some d | _ => none) = some d
  rw [h]
theorem at_own {i : Nat} {d : D} (h : at' env ah (.inl i) = some d) : env[i]? = some (Sl.ow d) := by
  have h : (match env[i]? with | some (Sl.ow d) => some d | _ => none) = some d := h
  split at h
  · rename_i d' e
    cases h
    exact e
  · cases h
theorem Fr.back (hr : HR P w K L env ah H) (S : Stp L env ah H L1 env1 ah1 H1) (hr1 : HR P w K L1 env1 ah1 H1) {a : Addr} (h : Fr L1 env1 H1 a) : Fr L env H a := by
  have shared : ∀ n d, at' env ah (.inr n) = some d → ∃ d', at' env1 ah1 (.inr n) = some d' ∧ L1.mu n = L.mu n := fun n d e => by
    have hn : n < ah.length := (List.getElem?_eq_some_iff.mp (show ah[n]? = some d from e)).1
    have hk := S.le.k
    rw [hr.k, hr1.k] at hk
    exact ⟨_, List.getElem?_eq_getElem (Nat.lt_of_lt_of_le hn hk), S.le.mu n (by rw [hr.k]; exact hn)⟩
  rcases h with h | ⟨i, d, h, e⟩
  · cases q : H a with
    | none => exact .inl q
    | some o =>
      by_cases hl : ∃ l d, at' env ah l = some d ∧ L.ad l = a
      · obtain ⟨l, d, hl, e⟩ := hl
        cases l with
        | inl i => exact .inr ⟨i, d, at_own hl, e⟩
        | inr n =>
          obtain ⟨d', h1, h2⟩ := shared n d hl
          obtain ⟨o', ho, _⟩ := (hr1.cell _ _ h1).1.there
          have e : L.mu n = a := e
          have ho : H1 (L1.mu n) = some o' := ho
          rw [h2, e, h] at ho
          cases ho
      · rw [S.frm a o q fun l d h' e' => hl ⟨l, d, h', e'⟩] at h
        cases h
  · rcases S.liv (.inl i) d (own_at h) with ⟨l0, d0, h0, e0⟩ | h0
    · have e0 : L.ad l0 = L1.al i := e0
      rw [e] at e0
      cases l0 with
      | inl j => exact .inr ⟨j, d0, at_own h0, e0⟩
      | inr n =>
        obtain ⟨d', h1, h2⟩ := shared n d0 h0
        have e0 : L.mu n = a := e0
        have := hr1.inj (.inl i) (.inr n) d d' (own_at h) h1 (by show L1.al i = L1.mu n; rw [e, h2, e0])
        cases this
    · have h0 : H (L1.al i) = none := h0
      rw [e] at h0
      exact .inl h0
theorem RT.back (hr : HR P w K L env ah H) (S : Stp L env ah H L1 env1 ah1 H1) (hr1 : HR P w K L1 env1 ah1 H1) {L2 : Lay} {ah2 : AH} {H2 : Hp} : ∀ {r : Rw} {x : V}, RT P w K L1 env1 H1 L2 ah2 H2 r x → RT P w K L env H L2 ah2 H2 r x
  | .v d, x, h => h
  | .f d, x, ⟨a, e, c, hf, hl, h0⟩ => ⟨a, e, c, hf, hl, h0.back hr S hr1⟩
  | .o _, x, h => h
theorem Fin.back (hr : HR P w K L env ah H) (S : Stp L env ah H L1 env1 ah1 H1) (hr1 : HR P w K L1 env1 ah1 H1) : ∀ {o : Out}, Fin P w K Z L env ah H o → Fin P w K Z L1 env1 ah1 H1 o
  | .nx env' ah', h => fun L' σ' H' S' R' => h L' σ' H' (S.trans S') R'
  | .rt r ah', h => fun L' v H' S' hr' rt' => h L' v H' (S.trans S') hr' (rt'.back hr S hr1)
end
theorem weakS {X : Cx} {st : Stmt} {t t' : L2.TS} (h : PS X st t) (hw : ∀ Z σ H, t' Z σ H → t Z σ H) : PS X st t' := ⟨fun pins s σ H Z I q => h.run pins s σ H Z I (hw Z σ H q)⟩
theorem weakSs {X : Cx} {st : List Stmt} {t t' : L2.TS} (h : PSs X st t) (hw : ∀ Z σ H, t' Z σ H → t Z σ H) : PSs X st t' := ⟨fun pins s σ H Z I q => h.run pins s σ H Z I (hw Z σ H q)⟩
structure DS (X : Cx) (st : Stmt) (f : FS) : Prop where
  ps : PS X st (TSt X.prog X.w X.K f)
structure DSs (X : Cx) (st : List Stmt) (f : FS) : Prop where
  ps : PSs X st (TSt X.prog X.w X.K f)
def fSkip : FS := fun env ah => some (.nx env ah)
def fSeq (f g : FS) : FS := fun env ah => (f env ah).bind fun o => match o with
  | .nx env' ah' => g env' ah'
  | .rt r ah' => some (.rt r ah')
def fIf (c : FB) (f g : FS) : FS := fun env ah => (c env ah).bind fun p => if p.1 then f env p.2 else g env p.2
def fDrop (f : FE) : FS := fun env ah => (f env ah).map fun p => .nx env p.2
def fRet (f : FE) : FS := fun env ah => (f env ah).bind fun p => match p.1 with
  | .v d => some (.rt (.v d) p.2)
  | .f d => some (.rt (.f d) p.2)
  | .o i => match env[i]? with
    | some (Sl.ow d) => some (.rt (.f d) p.2)
    | _ => none
def fRetN : FS := fun env ah => some (.rt (.v .non) ah)
def forGo (t : Tg) (f : FS) : List D → Ev → AH → Option Out
  | [], env, ah => some (.nx env ah)
  | d :: ds, env, ah => (bindT t d env).bind fun env1 => (f env1 ah).bind fun o => match o with
    | .nx env' ah' => forGo t f ds env' ah'
    | .rt r ah' => some (.rt r ah')
def fFor (it : FI) (t : Tg) (f : FS) : FS := fun env ah => (it env ah).bind fun p => match p.1.2 with
  | none => forGo t f p.1.1 env p.2
  | some _ => none
def asgRw (i : Nat) (r : Rw) (env : Ev) : Option Ev := if i < env.length then match r with
    | .v d => some (env.set i (.va d))
    | .f d => some (env.set i (.ow d))
    | .o _ => none
  else none
def fAsg (i : Nat) (f : FE) : FS := fun env ah => (f env ah).bind fun p => (asgRw i p.1 env).map fun env' => .nx env' p.2
def fAsgT (t : Tg) (f : FV) : FS := fun env ah => (f env ah).bind fun p => (bindT t p.1 env).map fun env' => .nx env' p.2
def fPar (i j : Nat) (f g : FE) : FS := fun env ah => (f env ah).bind fun p => (g env p.2).bind fun q => (asgRw i p.1 env).bind fun env1 => (asgRw j q.1 env1).map fun env2 => .nx env2 q.2
def fPar3 (i j k : Nat) (f g h : FE) : FS := fun env ah => (f env ah).bind fun p => (g env p.2).bind fun q => (h env q.2).bind fun t => (asgRw i p.1 env).bind fun env1 => (asgRw j q.1 env1).bind fun env2 => (asgRw k t.1 env2).map fun env3 => .nx env3 t.2
section
variable {P : Program} {w : World} {K : PySem.W.Frag} {L L0 L1 : Lay} {env env0 env1 : Ev} {ah ah0 ah1 : AH} {H H0 H1 : Hp} {σ : L2.St} {Z : Ends} {f g : FS}
theorem ts_seq (t : TSt P w K (fSeq f g) Z σ H) : tSeq (TSt P w K f) (TSt P w K g) Z σ H := by
  obtain ⟨L, env, ah, R, o, e, q⟩ := t
  simp only [fSeq, Option.bind_eq_some_iff] at e
  obtain ⟨o1, e1, e2⟩ := e
  refine ⟨L, env, ah, R, o1, e1, ?_⟩
  cases o1 with
  | nx env1 ah1 => exact fun L1 σ1 H1 S1 R1 => ⟨L1, env1, ah1, R1, o, e2, q.back R.hr S1 R1.hr⟩
  | rt r ah1 => cases e2; exact q
theorem ts_if {c : FB} (t : TSt P w K (fIf c f g) Z σ H) : tIfS (TB P w K c) (TSt P w K f) (TSt P w K g) Z σ H := by
  obtain ⟨L, env, ah, R, o, e, q⟩ := t
  simp only [fIf, Option.bind_eq_some_iff] at e
  obtain ⟨⟨b, ah1⟩, e1, e2⟩ := e
  refine ⟨L, env, ah, R, b, ah1, e1, fun L1 H1 g1 => ?_⟩
  have R1 := R.go g1
  cases b with
  | true => exact ⟨L1, env, ah1, R1, o, e2, q.back R.hr g1.stp R1.hr⟩
  | false => exact ⟨L1, env, ah1, R1, o, e2, q.back R.hr g1.stp R1.hr⟩
theorem ts_drop {f : FE} (t : TSt P w K (fDrop f) Z σ H) : tDrop (TE P w K f) Z σ H := by
  obtain ⟨L, env, ah, R, o, e, q⟩ := t
  simp only [fDrop, Option.map_eq_some_iff] at e
  obtain ⟨⟨r, ah1⟩, e1, rfl⟩ := e
  exact ⟨L, env, ah, R, r, ah1, e1, fun L1 v H1 g1 w1 => q L1 σ H1 g1.stp (R.go g1)⟩
theorem at_nil {l : Lc} {d : D} (h : at' [] ah l = some d) : at' env ah l = some d := by
  cases l with
  | inl i => simp [at'] at h
  | inr n => exact h
theorem Stp.nil (h : Stp L env ah H L1 env1 ah1 H1) : Stp L env ah H L1 [] ah1 H1 := ⟨h.le, h.frm, fun l d q => h.liv l d (at_nil q), h.frz⟩
theorem HR.nil (h : HR P w K L env ah H) : HR P w K L [] ah H := h.less fun l d q => at_nil q
theorem ts_ret {f : FE} (t : TSt P w K (fRet f) Z σ H) : tRet (TE P w K f) Z σ H := by
  obtain ⟨L, env, ah, R, o, e, q⟩ := t
  simp only [fRet, Option.bind_eq_some_iff] at e
  obtain ⟨⟨r, ah1⟩, e1, e2⟩ := e
  refine ⟨L, env, ah, R, r, ah1, e1, fun L1 v H1 g1 w1 => ?_⟩
  cases r with
  | v d =>
    cases e2
    exact q L1 v H1 g1.stp.nil g1.hr.nil w1
  | f d =>
    cases e2
    obtain ⟨a, ev, c, hf, hl, h0⟩ := w1
    exact q L1 v H1 g1.stp.nil g1.hr.nil ⟨a, ev, c, hf, fun l e h => hl l e (at_nil h), .inl h0⟩
  | o i =>
    simp only at e2
    split at e2
    · rename_i d he
      cases e2
      obtain ⟨rfl, _⟩ := w1
      obtain ⟨c, hf⟩ := g1.hr.cell (.inl i) d (own_at he)
      refine q L1 _ H1 g1.stp.nil g1.hr.nil ⟨_, rfl, c, hf, fun l e h he' => ?_, .inr ⟨i, d, he, by rw [g1.al]⟩⟩
      have := g1.hr.inj l (.inl i) e d (at_nil h) (own_at he) he'
      subst this
      simp [at'] at h
    · cases e2
theorem ts_retN (t : TSt P w K fRetN Z σ H) : tRetN Z σ H := by
  obtain ⟨L, env, ah, R, o, e, q⟩ := t
  cases e
  exact q L .non H Stp.refl.nil R.hr.nil (by show RD P w K L .non .non; rw [RD])
/- a value is stored in a slot -/
theorem asg_ok {i : Nat} {r : Rw} {v : V} (S : Stp L0 env0 ah0 H0 L env ah H) (R : Rl P w K L env ah σ H) (h : RW P w K H0 L env ah H r v) (e : asgRw i r env = some env1) :
    ∃ L', L'.F = L.F ∧ L'.mu = L.mu ∧ L'.k = L.k ∧ Stp L0 env0 ah0 H0 L' env1 ah H ∧ Rl P w K L' env1 ah (σ.set i (some v)) H ∧
      ∀ r2 v2, RW P w K H0 L env ah H r2 v2 → (∀ j, r2 ≠ .o j) → ((∃ d, r = .f d) → (∃ d, r2 = .f d) → v2 ≠ v) → RW P w K H0 L' env1 ah H r2 v2 := by
  simp only [asgRw, Option.ite_none_right_eq_some] at e
  obtain ⟨hi, e⟩ := e
  cases r with
  | o j => cases e
  | v d =>
    cases e
    refine ⟨L, rfl, rfl, rfl, ⟨S.le, S.frm, fun l d q => S.liv l d (at_va q), S.frz⟩, R.va h, fun r2 v2 h2 no _ => ?_⟩
    cases r2 with
    | v d2 => exact h2
    | f d2 =>
      obtain ⟨a, ev, c, hf, hl, h0⟩ := h2
      exact ⟨a, ev, c, hf, fun l e q => hl l e (at_va q), h0⟩
    | o j => exact absurd rfl (no j)
  | f d =>
    cases e
    obtain ⟨a, rfl, c, hf, hl, h0⟩ := h
    have le : Le L { L with al := fun j => if j = i then a else L.al j } := ⟨Same.refl _, Nat.le_refl _, fun _ _ => rfl⟩
    have ats : ∀ {l : Lc} {e : D}, at' (env.set i (.ow d)) ah l = some e → (l = .inl i ∧ e = d) ∨ (l ≠ .inl i ∧ at' env ah l = some e) := fun {l e} q => by
      cases l with
      | inr n => exact .inr ⟨(fun z => nomatch z), q⟩
      | inl j =>
        by_cases hj : i = j
        · subst hj
          have q := at_own q
          rw [List.getElem?_set_self hi] at q
          cases q
          exact .inl ⟨rfl, rfl⟩
        · have q := at_own q
          rw [List.getElem?_set_ne hj] at q
          exact .inr ⟨fun z => hj (by cases z; rfl), own_at q⟩
    have ads : ∀ {l : Lc}, l ≠ .inl i → Lay.ad { L with al := fun j => if j = i then a else L.al j } l = L.ad l := fun {l} q => by
      cases l with
      | inr n => rfl
      | inl j => exact if_neg fun z => q (by rw [z])
    have adi : Lay.ad { L with al := fun j => if j = i then a else L.al j } (.inl i) = a := if_pos rfl
    refine ⟨{ L with al := fun j => if j = i then a else L.al j }, rfl, rfl, rfl, ⟨S.le.trans le, S.frm, fun l e q => ?_, S.frz⟩, ⟨⟨R.hr.k, fun l e q => ?_, R.hr.sub, fun l l' e e' q q' z => ?_⟩, ⟨by rw [List.length_set, List.length_set]; exact R.sr.len, fun j e q => ?_, fun j e q => ?_⟩⟩, fun r2 v2 h2 no ne => ?_⟩
    · rcases ats q with ⟨rfl, rfl⟩ | ⟨n, q⟩
      · rw [adi]
        exact .inr h0
      · rw [ads n]
        exact S.liv l e q
    · rcases ats q with ⟨rfl, rfl⟩ | ⟨n, q⟩
      · rw [adi]
        exact ⟨c.mono le, hf⟩
      · rw [ads n]
        exact ⟨(R.hr.cell l e q).1.mono le, (R.hr.cell l e q).2⟩
    · rcases ats q with ⟨rfl, rfl⟩ | ⟨n, q⟩
      · rcases ats q' with ⟨rfl, _⟩ | ⟨n', q'⟩
        · rfl
        · rw [adi, ads n'] at z
          exact absurd z.symm (hl l' e' q')
      · rcases ats q' with ⟨rfl, _⟩ | ⟨n', q'⟩
        · rw [adi, ads n] at z
          exact absurd z (hl l e q)
        · rw [ads n, ads n'] at z
          exact R.hr.inj l l' e e' q q' z
    · by_cases hj : i = j
      · subst hj
        rw [List.getElem?_set_self hi] at q
        cases q
      · rw [List.getElem?_set_ne hj] at q ⊢
        obtain ⟨x, h1, h2⟩ := R.sr.val j e q
        exact ⟨x, h1, h2.mono le⟩
    · by_cases hj : i = j
      · subst hj
        show (σ.set i (some (V.ref a)))[i]? = some (some (V.ref (if i = i then a else L.al i)))
        rw [List.getElem?_set_self (by rw [R.sr.len]; exact hi), if_pos rfl]
      · rw [List.getElem?_set_ne hj] at q ⊢
        show σ[j]? = some (some (V.ref (if j = i then a else L.al j)))
        rw [if_neg (fun z => hj z.symm)]
        exact R.sr.own j e q
    · cases r2 with
      | v d2 => exact RD.mono le h2
      | f d2 =>
        obtain ⟨a2, ev, c2, hf2, hl2, h02⟩ := h2
        refine ⟨a2, ev, c2.mono le, hf2, fun l e q => ?_, h02⟩
        rcases ats q with ⟨rfl, rfl⟩ | ⟨n, q⟩
        · rw [adi]
          exact fun z => ne ⟨_, rfl⟩ ⟨_, rfl⟩ (by rw [ev, z])
        · rw [ads n]
          exact hl2 l e q
      | o j => exact absurd rfl (no j)
theorem asg_no {i : Nat} {r : Rw} {env env1 : Ev} (e : asgRw i r env = some env1) : ∀ j, r ≠ .o j := fun j z => by
  subst z
  simp [asgRw] at e
theorem ts_asg {i : Nat} {f : FE} (t : TSt P w K (fAsg i f) Z σ H) : tAsg (TE P w K f) (gName i) Z σ H := by
  obtain ⟨L, env, ah, R, o, e, q⟩ := t
  simp only [fAsg, Option.bind_eq_some_iff, Option.map_eq_some_iff] at e
  obtain ⟨⟨r, ah1⟩, e1, env1, e2, rfl⟩ := e
  refine ⟨L, env, ah, R, r, ah1, e1, fun L1 v H1 g1 w1 => ?_⟩
  obtain ⟨L', _, _, _, S', R', _⟩ := asg_ok g1.stp (R.go g1) w1 e2
  exact q L' _ H1 S' R'
/- a fresh thing stands elsewhere than an older one -/
theorem fresh_ne {L1 L2 : Lay} {ah1 ah2 : AH} {H1 H2 : Hp} {env : Ev} {r1 r2 : Rw} {v1 v2 : V} (h1 : RW P w K H L1 env ah1 H1 r1 v1) (h2 : RW P w K H1 L2 env ah2 H2 r2 v2) : (∃ d, r1 = .f d) → (∃ d, r2 = .f d) → v2 ≠ v1 := by
  rintro ⟨d1, rfl⟩ ⟨d2, rfl⟩ z
  obtain ⟨a1, rfl, c1, _⟩ := h1
  obtain ⟨a2, rfl, _, _, _, h0⟩ := h2
  cases z
  obtain ⟨o, ho, _⟩ := c1.there
  rw [h0] at ho
  cases ho
mutual
theorem bind_less {l : Lc} {e : D} : ∀ {tg : Tg} {d : D} {env env1 : Ev}, bindT tg d env = some env1 → at' env1 ah l = some e → at' env ah l = some e
  | .nm i, d, env, env1, h, q => by
    simp only [bindT, Option.ite_none_right_eq_some, Option.some.injEq] at h
    obtain ⟨_, rfl⟩ := h
    exact at_va q
  | .tp t, d, env, env1, h, q => by
    simp only [bindT, Option.bind_eq_some_iff] at h
    obtain ⟨xs, _, h⟩ := h
    exact binds_less h q
  | .nil, d, env, env1, h, q => by simp [bindT] at h
  | .cons _ _, d, env, env1, h, q => by simp [bindT] at h
theorem binds_less {l : Lc} {e : D} : ∀ {tg : Tg} {ds : List D} {env env1 : Ev}, bindTs tg ds env = some env1 → at' env1 ah l = some e → at' env ah l = some e
  | .nil, [], env, env1, h, q => by
    simp only [bindTs, Option.some.injEq] at h
    subst h
    exact q
  | .nil, _ :: _, env, env1, h, q => by simp [bindTs] at h
  | .cons a r, [], env, env1, h, q => by simp [bindTs] at h
  | .cons a r, x :: xs, env, env1, h, q => by
    simp only [bindTs, Option.bind_eq_some_iff] at h
    obtain ⟨env2, b1, b2⟩ := h
    exact bind_less b1 (binds_less b2 q)
  | .nm _, ds, env, env1, h, q => by simp [bindTs] at h
  | .tp _, ds, env, env1, h, q => by simp [bindTs] at h
end
theorem Stp.less {env2 : Ev} (S : Stp L0 env0 ah0 H0 L env ah H) (h : ∀ l d, at' env2 ah l = some d → at' env ah l = some d) : Stp L0 env0 ah0 H0 L env2 ah H := ⟨S.le, S.frm, fun l d q => S.liv l d (h l d q), S.frz⟩
theorem ts_asgT {tg : Tg} {f : FV} (t : TSt P w K (fAsgT tg f) Z σ H) : tAsg (TV P w K f) (TGo P w K tg) Z σ H := by
  obtain ⟨L, env, ah, R, o, e, q⟩ := t
  simp only [fAsgT, Option.bind_eq_some_iff, Option.map_eq_some_iff] at e
  obtain ⟨⟨d, ah1⟩, e1, env1, e2, rfl⟩ := e
  exact ⟨L, env, ah, R, d, ah1, e1, fun L1 v H1 g1 w1 => ⟨L1, env, ah1, d, env1, R.go g1, w1, e2, fun σ' R' _ => q L1 σ' H1 (g1.stp.less fun l d => bind_less e2) R'⟩⟩
theorem ts_par {i j : Nat} {f g : FE} (t : TSt P w K (fPar i j f g) Z σ H) : tPar i j (tCons (TE P w K f) (tCons (TE P w K g) tNil)) Z σ H := by
  obtain ⟨L, env, ah, R, o, e, q⟩ := t
  simp only [fPar, Option.bind_eq_some_iff, Option.map_eq_some_iff] at e
  obtain ⟨⟨r1, ah1⟩, e1, ⟨r2, ah2⟩, e2, env1, a1, env2, a2, rfl⟩ := e
  refine ⟨L, env, ah, R, r1, ah1, e1, fun L1 x H1 g1 w1 => ⟨L1, env, ah1, R.go g1, r2, ah2, e2, fun L2 y H2 g2 w2 => ⟨x, y, rfl, ?_⟩⟩⟩
  obtain ⟨L3, _, _, _, S3, R3, tr⟩ := asg_ok (g1.trans g2).stp (R.go (g1.trans g2)) (w1.go g2) a1
  obtain ⟨L4, _, _, _, S4, R4, _⟩ := asg_ok S3 R3 (tr r2 y (RW.back R.hr g1 w2) (asg_no a2) (fresh_ne w1 w2)) a2
  exact q L4 _ H2 S4 R4
theorem ts_par3 {i j k : Nat} {f g h : FE} (t : TSt P w K (fPar3 i j k f g h) Z σ H) : tPar3 i j k (tCons (TE P w K f) (tCons (TE P w K g) (tCons (TE P w K h) tNil))) Z σ H := by
  obtain ⟨L, env, ah, R, o, e, q⟩ := t
  simp only [fPar3, Option.bind_eq_some_iff, Option.map_eq_some_iff] at e
  obtain ⟨⟨r1, ah1⟩, e1, ⟨r2, ah2⟩, e2, ⟨r3, ah3⟩, e3, env1, a1, env2, a2, env3, a3, rfl⟩ := e
  refine ⟨L, env, ah, R, r1, ah1, e1, fun L1 x H1 g1 w1 => ⟨L1, env, ah1, R.go g1, r2, ah2, e2, fun L2 y H2 g2 w2 => ⟨L2, env, ah2, (R.go g1).go g2, r3, ah3, e3, fun L3 z H3 g3 w3 => ⟨x, y, z, rfl, ?_⟩⟩⟩⟩
  have g12 := g1.trans g2
  have g123 := g12.trans g3
  have v1 := (w1.go g2).go g3
  have v2 := RW.back R.hr g1 (w2.go g3)
  have v3 := RW.back R.hr g12 w3
  have n12 := fresh_ne w1 w2
  have n13 := fresh_ne (w1.go g2) w3
  have n23 := fresh_ne (RW.back R.hr g1 w2) w3
  obtain ⟨M1, _, _, _, S1, R1, t1⟩ := asg_ok g123.stp (R.go g123) v1 a1
  obtain ⟨M2, _, _, _, S2, R2, t2⟩ := asg_ok S1 R1 (t1 r2 y v2 (asg_no a2) n12) a2
  obtain ⟨M3, _, _, _, S3, R3, _⟩ := asg_ok S2 R2 (t2 r3 z (t1 r3 z v3 (asg_no a3) n13) (asg_no a3) n23) a3
  exact q M3 _ H3 S3 R3
theorem ts_for {it : FI} {tg : Tg} (t : TSt P w K (fFor it tg f) Z σ H) : tFor (TIo P w K it) (TGo P w K tg) (TSt P w K f) Z σ H := by
  obtain ⟨L, env, ah, R, o, e, q⟩ := t
  simp only [fFor, Option.bind_eq_some_iff] at e
  obtain ⟨⟨⟨ds, gu⟩, ah1⟩, e1, e2⟩ := e
  cases gu with
  | some _ => cases e2
  | none =>
    have e2 : forGo tg f ds env ah1 = some o := e2
    refine ⟨L, env, ah, R, ds, none, ah1, e1, fun L1 J H1 g1 ⟨G, Y, wk, hw⟩ _ => ?_⟩
    refine for_it wk (fun i σ Hc => ∃ L2 env2 ahc, Stp L env ah H L2 env2 ahc Hc ∧ Le L1 L2 ∧ Rl P w K L2 env2 ahc σ Hc ∧ forGo tg f (ds.drop i) env2 ahc = some o) ?_ ?_ ?_ ?_
    · exact ⟨L1, env, ah1, g1.stp, Le.refl _, R.go g1, by rw [List.drop_zero]; exact e2⟩
    · rintro i σ' Hc _ ⟨L2, env2, ahc, S2, le2, R2, _⟩
      exact (hw L2 env2 ahc Hc le2 R2.hr fun _ _ z => nomatch z).1
    · rintro i x σ' Hc Hx hi ⟨L2, env2, ahc, S2, le2, R2, go⟩ hy
      obtain ⟨L3, d, g3, hd, hx⟩ := (hw L2 env2 ahc Hc le2 R2.hr fun _ _ z => nomatch z).2 i x Hx hi hy
      rw [List.drop_eq_getElem_cons hi] at go
      have hd' : ds[i] = d := by rw [List.getElem?_eq_getElem hi] at hd; exact Option.some.inj hd
      rw [hd'] at go
      simp only [forGo, Option.bind_eq_some_iff] at go
      obtain ⟨env3, b3, o1, f1, go⟩ := go
      have S3 := (S2.trans g3.stp).less (env2 := env3) fun l d => bind_less b3
      refine ⟨L3, env2, ahc, d, env3, R2.go g3, hx, b3, fun σ3 R3 _ => ⟨L3, env3, ahc, R3, o1, f1, ?_⟩⟩
      cases o1 with
      | nx env4 ah4 => exact fun L4 σ4 H4 S4 R4 => ⟨L4, env4, ah4, S3.trans S4, le2.trans (g3.stp.le.trans S4.le), R4, go⟩
      | rt r ah4 =>
        cases go
        exact fun L4 v H4 S4 hr4 rt4 => q L4 v H4 (S3.trans S4) hr4 (rt4.back R.hr S3 R3.hr)
    · rintro σ' Hc ⟨L2, env2, ahc, S2, le2, R2, go⟩
      rw [List.drop_length] at go
      cases go
      exact q L2 σ' Hc S2 R2
end

/-! ### the rules -/
section
variable {X : Cx} {st : Stmt} {sts as bs : List Stmt} {e c a b tg iter : Expr} {f g h : FS} {fe ge he : FE} {fb : FB} {pos : Pos} {t : Tg}
theorem dss_nil : DSs X [] fSkip := ⟨weakSs pss_nil fun Z σ H ⟨L, env, ah, R, o, e, q⟩ => by cases e; exact q L σ H Stp.refl R⟩
theorem dss_cons (h1 : DS X st f) (h2 : DSs X sts g) : DSs X (st :: sts) (fSeq f g) := ⟨weakSs (pss_cons h1.ps h2.ps) fun _ _ _ t => ts_seq t⟩
theorem ds_if (hc : DB X c fb) (ha : DSs X as f) (hb : DSs X bs g) : DS X (.If c as bs pos) (fIf fb f g) := ⟨weakS (ps_if hc ha.ps hb.ps) fun _ _ _ t => ts_if t⟩
theorem ds_drop (he : DE X e fe) (hs : swapsWith e none pos.line X.env = pure false) : DS X (.Expr e pos) (fDrop fe) := ⟨weakS (ps_expr he hs) fun _ _ _ t => ts_drop t⟩
theorem ds_ret (he : DE X e fe) : DS X (.Return (some e) pos) (fRet fe) := ⟨weakS (ps_ret he) fun _ _ _ t => ts_ret t⟩
theorem ds_retN : DS X (.Return none pos) fRetN := ⟨weakS ps_retN fun _ _ _ t => ts_retN t⟩
theorem ds_asg {i : Nat} {x : Str} {pos' : Pos} (hN : X.N.Nodup) (hi : X.N[i]? = some x) (hx : Loc X.env.scope x) (he : DE X e fe) (hs : swapsWith e (some (.Name x pos')) pos.line X.env = pure false) (hf : X.fn x = true ∨ X.env.scope.names.lookup x = some .local) :
    DS X (.Assign [.Name x pos'] e pos) (fAsg i fe) := ⟨weakS (ps_set hN hi hx he hs hf) fun _ _ _ t => ts_asg t⟩
theorem ds_asgT {fv : FV} (he : DV X e fv) (hg : DG X tg t) (hs : swapsWithSole [tg] e pos.line X.env = pure false) (hw : swappedStores [tg] e X.env = pure none) (h1 : (assignEach [tg] X.env).map (·.2) = [assign tg X.env]) :
    DS X (.Assign [tg] e pos) (fAsgT t fv) := ⟨weakS (ps_asg he hg.pg hs hw h1) fun _ _ _ t => ts_asgT t⟩
theorem ds_par {i j : Nat} {x y : Str} {px py pt pt2 : Pos} {kt k2 : Nat} (hc : X.calm = true) (hN : X.N.Nodup) (hi : X.N[i]? = some x) (hj : X.N[j]? = some y) (hij : i ≠ j) (hx : X.env.scope.names.lookup x = some .local) (hy : X.env.scope.names.lookup y = some .local)
    (ha : DE X a fe) (hb : DE X b ge) (s1 : starEach [a, b] X.env = (false, eval a X.env) :: starEach [b] X.env) (s2 : starEach [b] X.env = (false, eval b X.env) :: starEach [] X.env)
    (hw : swappedStores [.Tuple [.Name x px, .Name y py] kt pt] (.Tuple [a, b] k2 pt2) X.env = pure (some [x, y])) (hs : swapsWithSole [.Tuple [.Name x px, .Name y py] kt pt] (.Tuple [a, b] k2 pt2) pos.line X.env = pure false) :
    DS X (.Assign [.Tuple [.Name x px, .Name y py] kt pt] (.Tuple [a, b] k2 pt2) pos) (fPar i j fe ge) := ⟨weakS (ps_par hc hN hi hj hij hx hy (pa_cons ha (pa_cons hb pa_nil s2) s1) hw hs) fun _ _ _ t => ts_par t⟩
theorem ds_par3 {i j l : Nat} {x y z : Str} {c : Expr} {px py pz pt pt2 : Pos} {kt k2 : Nat} (hc : X.calm = true) (hN : X.N.Nodup) (hi : X.N[i]? = some x) (hj : X.N[j]? = some y) (hl : X.N[l]? = some z) (hij : i ≠ j) (hil : i ≠ l) (hjl : j ≠ l)
    (hx : X.env.scope.names.lookup x = some .local) (hy : X.env.scope.names.lookup y = some .local) (hz : X.env.scope.names.lookup z = some .local)
    (ha : DE X a fe) (hb : DE X b ge) (hcc : DE X c he) (s1 : starEach [a, b, c] X.env = (false, eval a X.env) :: starEach [b, c] X.env) (s2 : starEach [b, c] X.env = (false, eval b X.env) :: starEach [c] X.env) (s3 : starEach [c] X.env = (false, eval c X.env) :: starEach [] X.env)
    (hw : swappedStores [.Tuple [.Name x px, .Name y py, .Name z pz] kt pt] (.Tuple [a, b, c] k2 pt2) X.env = pure (some [x, y, z])) (hs : swapsWithSole [.Tuple [.Name x px, .Name y py, .Name z pz] kt pt] (.Tuple [a, b, c] k2 pt2) pos.line X.env = pure false) :
    DS X (.Assign [.Tuple [.Name x px, .Name y py, .Name z pz] kt pt] (.Tuple [a, b, c] k2 pt2) pos) (fPar3 i j l fe ge he) :=
  ⟨weakS (ps_par3 hc hN hi hj hl hij hil hjl hx hy hz (pa_cons ha (pa_cons hb (pa_cons hcc pa_nil s3) s2) s1) hw hs) fun _ _ _ t => ts_par3 t⟩
theorem ds_for {it : FI} (hp : PassesOwn (model X.prog X.w) X.A X.env X.xe) (hc : X.calm = true) (hi : DI X tg iter it) (hg : DG X tg t) (hb : DSs X as f) (hs : ∀ x, foldedSetIterable iter X.env x = pure x) : DS X (.For tg iter as [] pos) (fFor it t f) :=
  ⟨weakS (ps_for hp hc hi.pi hg.pg hb.ps hs) fun _ _ _ t => ts_for t⟩
end
end U

/-! U13: what changes an object: o[k] = v, o.append(v), o.extend(v), o.pop(). -/
namespace U
open PySem PySem.Spec PyProof.Rows L2
def locOf : Rw → Option Lc
  | .o i => some (.inl i)
  | .v (.ref n) => some (.inr n)
  | _ => none
def upE (env : Ev) (l : Lc) (d : D) : Ev := match l with
  | .inl i => env.set i (.ow d)
  | .inr _ => env
def upA (ah : AH) (l : Lc) (d : D) : AH := match l with
  | .inl _ => ah
  | .inr n => ah.set n d
section
variable {P : Program} {w : World} {K : PySem.W.Frag} {L : Lay} {env : Ev} {ah : AH} {H H0 : Hp} {σ : L2.St} {l : Lc} {d d' : D} {o : HO}
theorem loc_at {r : Rw} {x : V} (h : RW P w K H0 L env ah H r x) (e : locOf r = some l) : x = .ref (L.ad l) := by
  cases r with
  | f _ => cases e
  | o i =>
    cases e
    exact h.1
  | v dd =>
    cases dd <;> simp only [locOf] at e <;> try (cases e; done)
    cases e
    have h : RD P w K L (.ref _) x := h
    rw [RD] at h
    exact h.2
theorem at_up {l' : Lc} {e : D} (hl : at' env ah l = some d) (h : at' (upE env l d') (upA ah l d') l' = some e) : (l' = l ∧ e = d') ∨ (l' ≠ l ∧ at' env ah l' = some e) := by
  cases l with
  | inl i =>
    have hl := at_own hl
    have hi : i < env.length := (List.getElem?_eq_some_iff.mp hl).1
    cases l' with
    | inr n => exact .inr ⟨(fun z => nomatch z), h⟩
    | inl j =>
      have h := at_own h
      have h : (env.set i (.ow d'))[j]? = some (Sl.ow e) := h
      by_cases hj : i = j
      · subst hj
        rw [List.getElem?_set_self hi] at h
        cases h
        exact .inl ⟨rfl, rfl⟩
      · rw [List.getElem?_set_ne hj] at h
        exact .inr ⟨fun z => hj (by cases z; rfl), own_at h⟩
  | inr n =>
    have hl : ah[n]? = some d := hl
    have hn : n < ah.length := (List.getElem?_eq_some_iff.mp hl).1
    cases l' with
    | inl j => exact .inr ⟨(fun z => nomatch z), h⟩
    | inr m =>
      have h : (ah.set n d')[m]? = some e := h
      by_cases hj : n = m
      · subst hj
        rw [List.getElem?_set_self hn] at h
        cases h
        exact .inl ⟨rfl, rfl⟩
      · rw [List.getElem?_set_ne hj] at h
        exact .inr ⟨fun z => hj (by cases z; rfl), h⟩
theorem HR.poke (hr : HR P w K L env ah H) (hl : at' env ah l = some d) (ho : ∀ H' : Hp, H' (L.ad l) = some o → Cel P w K L H' (L.ad l) d') : HR P w K L (upE env l d') (upA ah l d') (upd H (L.ad l) o) := by
  refine ⟨?_, fun l' e q => ?_, fun a u q => ?_, fun l1 l2 e1 e2 q1 q2 z => ?_⟩
  · rw [hr.k]
    cases l with
    | inl i => rfl
    | inr n => exact (List.length_set ..).symm
  · rcases at_up hl q with ⟨rfl, rfl⟩ | ⟨ne, q⟩
    · exact ⟨ho _ upd_same, (hr.cell _ _ hl).2⟩
    · obtain ⟨c, hf⟩ := hr.cell _ _ q
      exact ⟨c.at (upd_ne fun z => ne (hr.inj _ _ _ _ q hl z)), hf⟩
  · rw [upd_ne (ne_of_none q (hr.cell _ _ hl).2)]
    exact hr.sub a u q
  · have f : ∀ {l1 : Lc} {e1 : D}, at' (upE env l d') (upA ah l d') l1 = some e1 → ∃ e, at' env ah l1 = some e := fun {l1 e1} q => by
      rcases at_up hl q with ⟨rfl, rfl⟩ | ⟨_, q⟩
      · exact ⟨_, hl⟩
      · exact ⟨_, q⟩
    obtain ⟨e3, q3⟩ := f q1
    obtain ⟨e4, q4⟩ := f q2
    exact hr.inj _ _ _ _ q3 q4 z
theorem Stp.poke (hl : at' env ah l = some d) : Stp L env ah H L (upE env l d') (upA ah l d') (upd H (L.ad l) o) :=
  ⟨Le.refl _, fun a u h1 h2 => by rw [upd_ne fun z => h2 l d hl z.symm]; exact h1, fun l' e q => by
    rcases at_up hl q with ⟨rfl, rfl⟩ | ⟨_, q⟩
    · exact .inl ⟨_, _, hl, rfl⟩
    · exact .inl ⟨_, _, q, rfl⟩, fun a u h => .inl h⟩
theorem SR.poke (s : SR P w K L env σ) (hl : at' env ah l = some d) : SR P w K L (upE env l d') σ := by
  cases l with
  | inr n => exact s
  | inl i =>
    have hl := at_own hl
    have hi : i < env.length := (List.getElem?_eq_some_iff.mp hl).1
    refine ⟨by rw [show (upE env (.inl i) d').length = env.length from List.length_set ..]; exact s.len, fun j e q => ?_, fun j e q => ?_⟩
    · have q : (env.set i (.ow d'))[j]? = some (Sl.va e) := q
      by_cases hj : i = j
      · subst hj
        rw [List.getElem?_set_self hi] at q
        cases q
      · rw [List.getElem?_set_ne hj] at q
        exact s.val j e q
    · have q : (env.set i (.ow d'))[j]? = some (Sl.ow e) := q
      by_cases hj : i = j
      · subst hj
        exact s.own i d hl
      · rw [List.getElem?_set_ne hj] at q
        exact s.own j e q
end
/- what a method does to its object -/
def appD : D → D → Option D
  | .lst xs, z => if xs.length < big then some (.lst (xs ++ [z])) else none
  | _, _ => none
def extD : D → D → Option D
  | .lst xs, .lst ys => if xs.length + ys.length ≤ big then some (.lst (xs ++ ys)) else none
  | .lst xs, .tup ys => if xs.length + ys.length ≤ big then some (.lst (xs ++ ys)) else none
  | _, _ => none
def putAt : D → D → D → Option D
  | .dct kvs, k, v => (dput kvs k v).map .dct
  | .lst xs, .int i, v => (ixN xs.length i).map fun j => .lst (xs.set j v)
  | _, _, _ => none
def isL : D → Bool
  | .lst _ => true
  | _ => false
def fMut (h : D → D → Option D) (fo : FE) (fv : FV) : FS := fun env ah => (fo env ah).bind fun p => (locOf p.1).bind fun l => (at' env p.2 l).bind fun d0 => if isL d0 then (fv env p.2).bind fun q => (at' env q.2 l).bind fun d => (h d q.1).map fun d' => .nx (upE env l d') (upA q.2 l d') else none
def fPut (fo : FE) (fi fv : FV) : FS := fun env ah => (fv env ah).bind fun z => (fo env z.2).bind fun p => (fi env p.2).bind fun k => (locOf p.1).bind fun l => (at' env k.2 l).bind fun d => (putAt d k.1 z.1).map fun d' => .nx (upE env l d') (upA k.2 l d')
/- o.pop() of a shared list -/
def sPop (fo : FE) : FE := fun env ah => (fo env ah).bind fun p => match p.1 with
  | .v (.ref n) => match p.2[n]? with
    | some (.lst xs) => (xs[xs.length - 1]?).map fun y => (.v y, p.2.set n (.lst xs.dropLast))
    | _ => none
  | _ => none
section
variable {X : Cx} {o i e value : Expr} {fo fe : FE} {fv fi : FV} {pos pos' apos cpos : Pos}
theorem RDs.dropLast {P : Program} {w : World} {K : PySem.W.Frag} {L : Lay} {ds : List D} {vs : List V} (h : RDs P w K L ds vs) : RDs P w K L ds.dropLast vs.dropLast := by
  rw [List.dropLast_eq_take, List.dropLast_eq_take, h.length]
  exact h.take _
theorem RDs.set {P : Program} {w : World} {K : PySem.W.Frag} {L : Lay} {d : D} {v : V} (hv : RD P w K L d v) : ∀ {ds : List D} {vs : List V} (j : Nat), RDs P w K L ds vs → RDs P w K L (ds.set j d) (vs.set j v)
  | [], _, j, h => by rw [RDs] at h; subst h; exact RDs.nil
  | e :: ds, _, j, h => by
    rw [RDs] at h
    obtain ⟨x, r, rfl, h1, h2⟩ := h
    cases j with
    | zero => exact RDs.cons hv h2
    | succ j => exact RDs.cons h1 (RDs.set hv j h2)
theorem putAt_cases {d k z d' : D} (h : putAt d k z = some d') : (∃ xs ii j, d = .lst xs ∧ k = .int ii ∧ ixN xs.length ii = some j ∧ d' = .lst (xs.set j z)) ∨ ∃ kvs kvs', d = .dct kvs ∧ dput kvs k z = some kvs' ∧ d' = .dct kvs' := by
  unfold putAt at h
  split at h
  · obtain ⟨a, h1, h2⟩ := Option.map_eq_some_iff.mp h
    exact .inr ⟨_, a, rfl, h1, h2.symm⟩
  · obtain ⟨a, h1, h2⟩ := Option.map_eq_some_iff.mp h
    exact .inl ⟨_, _, a, rfl, rfl, h1, h2.symm⟩
  · cases h
theorem ds_put (hu : X.A.units + 100 < cLine) (ho : DE X o fo) (hi : DV X i fi) (hv : DV X value fv) (hs : swapsWith value (some (.Subscript o i pos')) pos.line X.env = pure false) : DS X (.Assign [.Subscript o i pos'] value pos) (fPut fo fi fv) := by
  refine ⟨⟨fun pins s σ H Z I ⟨L, env, ah, R, out, e, q⟩ => ?_⟩⟩
  simp only [fPut, Option.bind_eq_some_iff, Option.map_eq_some_iff] at e
  obtain ⟨⟨z, ah1⟩, e1, ⟨r, ah2⟩, e2, ⟨k, ah3⟩, e3, l, e4, d, e5, d', e6, rfl⟩ := e
  have hbig := big_line
  refine wpAny_Assign_Subscript (thn (hv.run pins s σ H (fun v H1 => ∃ L1, Go X.prog X.w X.K L env ah H L1 ah1 H1 ∧ RD X.prog X.w X.K L1 z v) I ⟨L, env, ah, R, z, ah1, e1, fun L1 v H1 g1 w1 => ⟨L1, g1, w1⟩⟩) fun u1 s1 ⟨v, H1, I1, rv, L1, g1, w1⟩ => ?_) hs
  refine thn (ho.run pins s1 σ H1 (fun x H2 => ∃ L2, Go X.prog X.w X.K L1 env ah1 H1 L2 ah2 H2 ∧ RW X.prog X.w X.K H1 L2 env ah2 H2 r x) I1 ⟨L1, env, ah1, R.go g1, r, ah2, e2, fun L2 x H2 g2 w2 => ⟨L2, g2, w2⟩⟩) fun u2 s2 ⟨x, H2, I2, rx, L2, g2, w2⟩ => ?_
  refine thn (hi.run pins s2 σ H2 (fun y H3 => ∃ L3, Go X.prog X.w X.K L2 env ah2 H2 L3 ah3 H3 ∧ RD X.prog X.w X.K L3 k y) I2 ⟨L2, env, ah2, (R.go g1).go g2, k, ah3, e3, fun L3 y H3 g3 w3 => ⟨L3, g3, w3⟩⟩) fun u3 s3 ⟨y, H3, I3, ry, L3, g3, w3⟩ => ?_
  have gg := (g1.trans g2).trans g3
  obtain rfl := loc_at (w2.go g3) e4
  cases rx
  have R3 := R.go gg
  obtain ⟨ce, hf⟩ := R3.hr.cell l d e5
  have wz := (w1.mono g2.stp.le).mono g3.stp.le
  have fin : ∀ (ob : HO) s', (∀ H' : Hp, H' (L3.ad l) = some ob → Cel X.prog X.w X.K L3 H' (L3.ad l) d') → Inv X pins σ (upd H3 (L3.ad l) ob) s' → SP X pins Z .next s' := fun ob s' hc I' =>
    ⟨σ, _, I', q L3 σ _ (gg.stp.trans (Stp.poke e5)) ⟨R3.hr.poke e5 hc, R3.sr.poke e5⟩⟩
  rcases putAt_cases e6 with ⟨xs, ii, j, rfl, rfl, e9, rfl⟩ | ⟨kvs, kvs', rfl, e9, rfl⟩
  · obtain ⟨vs, c1, c2⟩ := ce
    rw [RD] at w3
    subst w3
    exact thn (set_list pins s3 σ H3 (.ref (L3.ad l)) (.int ii) v _ _ u1 (fun H4 => H4 = upd H3 (L3.ad l) (.lst (vs.set j v))) I3 rfl ry rv ⟨_, vs, ii, j, rfl, rfl, c1, by rw [← c2.length]; exact e9, rfl⟩) fun _ s4 ⟨H4, I4, e4⟩ => by
      subst e4
      exact fin _ s4 (fun H' e' => ⟨_, e', RDs.set wz j c2⟩) I4
  · exact dict_put (by omega) I3 R3.hr.sub ce w3 ry wz rv e9 fun ob s' hc I' => fin ob s' hc I'
/- o.append(v), o.extend(v) -/
theorem tyl {a : Addr} {vs : List V} {H : Hp} {K : PySem.W.Frag} (h : H a = some (.lst vs)) : tyV K "list" (.ref a) H := .inl ⟨rfl, _, SqL.of h⟩
theorem ds_mut {name : Str} {id : String} {h : D → D → Option D} {r : V → List V → Hp → VK → Prop} (slot : Slot "list" name id) (hty : typeOf (.builtin id) = pure (.type "method_descriptor")) (hm : MtR X id r)
    (hr : ∀ (L : Lay) (env : Ev) (ah : AH) (H : Hp) (a : Addr) (d d' z : D) (y : V) (Q : VK), HR X.prog X.w X.K L env ah H → Cel X.prog X.w X.K L H a d → RD X.prog X.w X.K L z y → h d z = some d' →
      (∀ o : HO, (∀ H' : Hp, H' a = some o → Cel X.prog X.w X.K L H' a d') → Q .non (upd H a o)) → r (.ref a) [y] H Q)
    (ho : DE X o fo) (hv : DV X e fv) (hbase : attributeBase o name X.env (eval o X.env) = eval o X.env) (hstar : starEach [e] X.env = (false, eval e X.env) :: starEach [] X.env) (hline : (apos.endLine == cpos.line) = true) :
    DS X (.Expr (.Call (.Attribute o name apos) [e] [] cpos) pos) (fMut h fo fv) := by
  refine ⟨weakS (ps_expr (pe_bm PySem.F.plainAttrs_list slot hty hm ho (pa_cons hv pa_nil hstar) hbase ?_ hline hstar rfl) rfl) fun Z σ H ⟨L, env, ah, R, out, e0, q⟩ => ?_⟩
  · rw [hstar]
    rfl
  simp only [fMut, Option.bind_eq_some_iff, Option.map_eq_some_iff, Option.ite_none_right_eq_some] at e0
  obtain ⟨⟨r1, ah1⟩, e1, l, e3, d0, e7, e8, ⟨z, ah2⟩, e2, d, e4, d', e5, rfl⟩ := e0
  refine ⟨L, env, ah, R, r1, ah1, e1, fun L1 x H1 g1 w1 => ?_⟩
  have R1 := R.go g1
  obtain rfl := loc_at w1 e3
  refine ⟨?_, L1, env, ah1, R1, z, ah2, e2, fun L2 y H2 g2 w2 => ?_⟩
  · cases d0 <;> simp only [isL] at e8 <;> try (cases e8; done)
    obtain ⟨vs, c1, _⟩ := (R1.hr.cell l _ e7).1
    exact tyl c1
  · have R2 := R1.go g2
    have w1' := loc_at (w1.go g2) e3
    rw [w1']
    exact hr L2 env ah2 H2 _ d d' z y _ R2.hr (R2.hr.cell l d e4).1 w2 e5 fun ob hc => q L2 σ _ ((g1.trans g2).stp.trans (Stp.poke e4)) ⟨R2.hr.poke e4 hc, R2.sr.poke e4⟩
theorem ds_app (ho : DE X o fo) (hv : DV X e fv) (hbase : attributeBase o "append" X.env (eval o X.env) = eval o X.env) (hstar : starEach [e] X.env = (false, eval e X.env) :: starEach [] X.env) (hline : (apos.endLine == cpos.line) = true) :
    DS X (.Expr (.Call (.Attribute o "append" apos) [e] [] cpos) pos) (fMut appD fo fv) :=
  ds_mut PySem.F.slot_list_append PySem.F.type_list_append mt_append (fun L env ah H a d d' z y Q hr ce hz e0 q => by
    cases d <;> simp only [appD, Option.ite_none_right_eq_some, Option.some.injEq] at e0 <;> try (cases e0; done)
    obtain ⟨hl, rfl⟩ := e0
    obtain ⟨vs, c1, c2⟩ := ce
    exact ⟨a, vs, y, rfl, rfl, c1, by rw [← c2.length]; exact Nat.lt_of_lt_of_le hl big_line, q _ fun H' e' => ⟨_, e', c2.append (RDs.one hz)⟩⟩) ho hv hbase hstar hline
/- extend by a list or a tuple -/
def rExt (K : PySem.W.Frag) : V → List V → Hp → VK → Prop := fun x vs H Q => ∃ l b xs zs, x = .ref l ∧ vs = [.ref b] ∧ H l = some (.lst xs) ∧ (H b = some (.lst zs) ∨ TP K H b zs) ∧ xs.length + zs.length ≤ sizeLine ∧ Q .non (upd H l (.lst (xs ++ zs)))
theorem mt_ext : MtM X "list.extend" (rExt X.K) := by
  rintro pins s σ H x vs v us Q I rx rv ⟨l, b, xs, zs, rfl, rfl, hH, hB, hz, q⟩
  rcases hB with hB | hB
  · exact mt_extend pins s σ H _ _ v us Q I rx rv ⟨l, b, xs, zs, rfl, rfl, hH, hB, hz, q⟩
  · cases rx
    obtain ⟨u, rfl, ru⟩ := rv.one
    cases ru
    obtain ⟨z, its, n, r, hl, e⟩ := I.lstM hH
    obtain ⟨its2, r2, ⟨o, ho, hc, n2, hd⟩, hz2⟩ := I.tuple hB.sq
    have hl2 := r2.length
    have e2 : s.heap.get? b = some { cls := .type "tuple", dict := none, data := .seq its2.toArray n2, slots := #[] } := by
      have k : o.dict = none ∧ o.slots = #[] := by
        rcases hB with ⟨o', e1, e2⟩ | ⟨o', its', n', e1, e2, e3, _⟩
        · have := (I.hok b _ e1).1
          rw [ho] at this
          cases this
          exact e2
        · have := I.kIn b o' e1
          rw [ho] at this
          cases this
          exact e3
      rw [ho]
      obtain ⟨c, dd, dat, sl⟩ := o
      obtain ⟨k1, k2⟩ := k
      simp only at hc hd k1 k2
      subst hc hd k1 k2
      rfl
    have hsz : its.toArray.size + its2.toArray.size ≤ sizeLine := by rw [List.size_toArray, List.size_toArray]; omega
    refine call_meets F.slot_list_extend ⟨_, e, rfl⟩ F.entry_list_extend (F.args_list_extend_2 _ _)
      (AutoSeq1.list_extend_list_tuple_0 l its.toArray n b its2.toArray n2 (by rw [notLongL hsz, Bool.and_false]; exact Bool.false_ne_true) (by rw [List.size_toArray]; omega) (by omega)) ⟨e, e2, ?_⟩
    exact ⟨.non, _, I.lset (its' := its ++ its2) hH e (by simp) (r.append r2) (by rw [List.length_append]; exact hz), rfl, q⟩
theorem ds_ext (ho : DE X o fo) (hv : DV X e fv) (hbase : attributeBase o "extend" X.env (eval o X.env) = eval o X.env) (hstar : starEach [e] X.env = (false, eval e X.env) :: starEach [] X.env) (hline : (apos.endLine == cpos.line) = true) :
    DS X (.Expr (.Call (.Attribute o "extend" apos) [e] [] cpos) pos) (fMut extD fo fv) :=
  ds_mut PySem.F.slot_list_extend PySem.F.type_list_extend mt_ext (fun L env ah H a d d' z y Q hr ce hz e0 q => by
    cases d <;> cases z <;> simp only [extD, Option.ite_none_right_eq_some, Option.some.injEq] at e0 <;> try (cases e0; done)
    · obtain ⟨hl, rfl⟩ := e0
      obtain ⟨vs, c1, c2⟩ := ce
      rw [RD] at hz
      obtain ⟨b, ws, rfl, k1, k2⟩ := hz
      exact ⟨a, b, vs, ws, rfl, rfl, c1, .inr (tp_same hr.sub k1), by rw [← c2.length, ← k2.length]; exact Nat.le_trans hl big_line, q _ fun H' e' => ⟨_, e', c2.append k2⟩⟩
    · obtain ⟨hl, rfl⟩ := e0
      obtain ⟨vs, c1, c2⟩ := ce
      rw [RD] at hz
      obtain ⟨b, ws, rfl, k1, k2⟩ := hz
      exact ⟨a, b, vs, ws, rfl, rfl, c1, .inl (hr.sub _ _ k1), by rw [← c2.length, ← k2.length]; exact Nat.le_trans hl big_line, q _ fun H' e' => ⟨_, e', c2.append k2⟩⟩) ho hv hbase hstar hline
/- o.pop() as a value -/
theorem de_pop (ho : DE X o fo) (hbase : attributeBase o "pop" X.env (eval o X.env) = eval o X.env) (hline : (apos.endLine == cpos.line) = true) : DE X (.Call (.Attribute o "pop" apos) [] [] cpos) (sPop fo) := by
  refine weakE (pe_bm0 PySem.F.plainAttrs_list PySem.F.slot_list_pop PySem.F.type_list_pop mt_pop ho hbase hline) fun σ H Q ⟨L, env, ah, R, r, ah', e0, q⟩ => ?_
  simp only [sPop, Option.bind_eq_some_iff] at e0
  obtain ⟨⟨r1, ah1⟩, e1, e2⟩ := e0
  split at e2
  · rename_i n en
    obtain rfl : r1 = .v (.ref n) := en
    split at e2
    · rename_i xs hx
      obtain ⟨y, hy, e3⟩ := Option.map_eq_some_iff.mp e2
      cases e3
      have hx : at' env ah1 (.inr n) = some (.lst xs) := hx
      refine ⟨L, env, ah, R, _, ah1, e1, fun L1 x H1 g1 w1 => ?_⟩
      have R1 := R.go g1
      have w1 := loc_at (l := .inr n) w1 rfl
      subst w1
      obtain ⟨vs, c1, c2⟩ := (R1.hr.cell _ _ hx).1
      obtain ⟨v, hv, rv⟩ := c2.get hy
      refine ⟨tyl c1, _, vs, v, rfl, rfl, c1, by rw [← c2.length]; exact hv, q L1 v _ ?_ rv⟩
      exact g1.trans ⟨Stp.poke (l := .inr n) (d' := .lst xs.dropLast) hx, R1.hr.poke (l := .inr n) hx fun H' e' => ⟨_, e', c2.dropLast⟩, rfl⟩
    · cases e2
  · cases e2
end
end U

/-! U14: calls of own functions. -/
namespace U
open PySem PySem.Spec PyProof.Rows L2
abbrev FG := List D → AH → Option (Rw × AH)
def sCall (g : FG) (fa : FA) : FE := fun env ah => (fa env ah).bind fun p => (g p.1 p.2).bind fun q => match q.1 with
  | .o _ => none
  | r => some (r, q.2)
section
variable (P : Program) (w : World) (K : PySem.W.Frag)
def spF (g : FG) : Sp := fun vs H Q _ => ∃ L args ah, HR P w K L [] ah H ∧ RDs P w K L args vs ∧ ∃ r ah', g args ah = some (r, ah') ∧
  ∀ L' v H', Stp L [] ah H L' [] ah' H' → HR P w K L' [] ah' H' → RT P w K L [] H L' ah' H' r v → Q v H'
end
/- a def's promise, called where nothing is being shown -/
structure FnG (P : Program) (w : World) (K : PySem.W.Frag) (mg : Str → Option Value) (base : Heap) (k : Nat) (f : Addr) (fd : FuncData) (ps : List Str) (sp : Sp) : Prop where
  len : ∀ vs H Q E, sp vs H Q E → vs.length = ps.length
  run : ∀ (A : Around) (outer : List Env) (s : Shared) (H : Hp) (args : Args) (us : List Value) (vs : List V) (Q : VK) (E : XK), Room k A → A.guards = some [] → Env0 P w K mg base A outer s H → BindsTo s fd args (ps.zip us) → Vals vs us → sp vs H Q E →
    codeAny (model P w) A (.call (.ref f) args) (CR CX0 outer P w H s Q E) s
theorem guards_deeper {A : Around} {env : Env} (h : A.guards = some []) : (A.deeper env).guards = some [] := by
  first | exact h | simpa [Around.deeper] using h
section
variable {X : Cx} {k : Nat} {f : Addr} {fd : FuncData} {ps : List Str} {sp : Sp} {x : Str} {p pos : Pos} {e : Expr} {es : List Expr} {t : L2.TA}
theorem run_fnG {pins : List (Addr × Obj)} {σ : L2.St} {H : Hp} {s : Shared} {Q : VK} {us : List Value} {vs : List V} (F : FnG X.prog X.w X.K X.mg X.base k f fd ps sp) (hr : Room k X.A) (hg : X.A.guards = some []) (hb : Binds X.K fd ps [])
    (I : Inv X pins σ H s) (r : Vals vs us) (h : sp vs H Q fun _ _ _ => False) : wpAny (model X.prog X.w) X.A (call (.ref f) us) (EP X pins σ Q) X.xe s := by
  have hl : us.length = ps.length := r.length ▸ F.len _ _ _ _ h
  have hb := hb s us I.kIn (by rw [List.append_nil]; exact hl)
  rw [List.append_nil] at hb
  refine wpAny_call (codeAny_mono (F.run X.A X.stack s H ⟨us, []⟩ us vs Q _ hr hg I.env0 hb r h) fun y s' hq => ?_)
  match y, hq with
  | .error _, hq => exact False.elim hq
  | .ok (.ret _), hq => exact I.after hq
  | .ok .next, hq => exact False.elim hq
  | .ok .brk, hq => exact False.elim hq
  | .ok .cont, hq => exact False.elim hq
theorem pe_callF (F : FnG X.prog X.w X.K X.mg X.base k f fd ps sp) (hr : Room k X.A) (hgd : X.A.guards = some []) (hg : Gl X x) (hm : X.mg x = some (.ref f)) (hk : PySem.W.keepIn X.K (.ref f) = true) (hb : Binds X.K fd ps []) (ha : PA X (e :: es) t) (hdb : (x == ("__debug__" : Str)) = false)
    (he : starEach (e :: es) X.env = (false, eval e X.env) :: starEach es X.env) (hpl : (backTo pos (starEach es X.env)).any (·.1) = false) : PE X (.Call (.Name x p) (e :: es) [] pos) (tCall sp [] (fun _ _ _ => False) t) :=
  ⟨fun pins s σ H Q I h => wpAny_Call_Name_kw (ld_glob I hg hm (PySem.W.callWith_K (h₀ := X.base) I.ok.mod.kin hk (thn (ha.run pos pins s σ H _ I h) fun us s1 ⟨vs, H1, I1, r, q⟩ => ⟨I1.kIn, run_fnG F hr hgd hb I1 r (by have q : sp (vs ++ []) H1 Q _ := q; rw [List.append_nil] at q; exact q)⟩) he hpl) hdb)⟩
theorem pe_callF0 (F : FnG X.prog X.w X.K X.mg X.base k f fd ps sp) (hr : Room k X.A) (hgd : X.A.guards = some []) (hg : Gl X x) (hm : X.mg x = some (.ref f)) (hk : PySem.W.keepIn X.K (.ref f) = true) (hb : Binds X.K fd ps []) (hdb : (x == ("__debug__" : Str)) = false) :
    PE X (.Call (.Name x p) [] [] pos) (tCall sp [] (fun _ _ _ => False) tNil) :=
  ⟨fun pins s σ H Q I h => wpAny_Call_Name_kw (ld_glob I hg hm (PySem.W.callWith_K0 I.kIn hk (run_fnG (us := []) F hr hgd hb I .nil h)) hdb)⟩
/- a def by its body -/
theorem fn_ofG {P : Program} {w : World} {K : PySem.W.Frag} {mg : Str → Option Value} {base : Heap} {qual : Str} {N : List Str} {st : Stmt} (F : Fun K x qual st f fd) (S : FnScope N ps (defScope st)) (len : ∀ vs H Q E, sp vs H Q E → vs.length = ps.length)
    (hbody : ∀ (cdv : Value) (A : Around) (outer : List Env) (s : Shared) (H : Hp) (vs : List V) (Q : VK) (E : XK), Room k (A.deeper (envOfC qual (defScope st) s.heap.objs.size f cdv)) → A.guards = some [] → sp vs H Q E →
      ∃ t, PSs (cxOf CX0 P w K mg base N qual (defScope st) f cdv A outer s H E).nox (defBody st) t ∧ t { nx := fun _ H' => Q .non H', rt := Q } (L2.start N vs) H) : FnG P w K mg base (k + 1) f fd ps sp := by
  obtain ⟨oc, od, kV, doc, pm, an, cdv, ct, osl, rfl, lk, hcd⟩ := F.ex
  refine ⟨len, fun A outer s H args us vs Q E hr hgd e0 hb r hsp => ?_⟩
  have KX : K.In s.heap := e0.mod.kin.keeps fun b o e => (e0.bs b o e).1
  have hkind : ∀ y ∈ ps.zip us, (defScope st).names.lookup y.1 = some .local ∨ ((defScope st).names.lookup y.1 = some .cell ∧ ((cellsFrom (s.heap.objs.size + 1) (defScope st).names []).lookup y.1).isSome = true) :=
    fun ⟨n, v⟩ hy => (S.par n (List.of_mem_zip hy).1).imp id fun q => ⟨q, PySem.W.cellsFrom_some _ _ _ (.inl q)⟩
  refine codeAny_call_function hr.depth (KX _ _ lk) rfl S.co S.gen rfl (PySem.W.codeRec_of KX hcd) (hb _ _ _ _ (wpAny_newFunctionEnv_cells S.kind hkind fun env he s1 x => ?_))
  subst he
  refine ⟨(e0.mod.nolimit.keeps fun b o e => (e0.bs b o e).1).keeps x.toInCall.keep, codeAny_func ?_⟩
  obtain ⟨t, ht, hq⟩ := hbody cdv A outer s H vs Q E (hr.deeper _) hgd hsp
  have I : Inv (cxOf CX0 P w K mg base N qual (defScope st) f cdv A outer s H E) [] (L2.start N vs) H s1 := inv_start S hr.hd e0 (len _ _ _ _ hsp) r x
  refine wpAny_mono (ht.nox.run [] s1 (L2.start N vs) H _ I hq) (fun fl s' hs => ?_) fun _ _ hs => hs
  match fl, hs with
  | .ret u, ⟨v, _, H', J, rv, q⟩ => exact ⟨v, H', J.os, J.bare, J.base, J.hok, rv, q⟩
  | .next, ⟨_, H', J, q⟩ => exact ⟨.non, H', J.os, J.bare, J.base, J.hok, rfl, q⟩
  | .brk, ⟨_, _, _, q⟩ => exact False.elim q
  | .cont, ⟨_, _, _, q⟩ => exact False.elim q
end
section
variable {P : Program} {w : World} {K : PySem.W.Frag} {L L1 L2 : Lay} {env : Ev} {ah ah1 ah2 : AH} {H H1 H2 : Hp} {σ : List (Option V)}
/- what a callee did, seen by the caller -/
theorem Go.call (hr : HR P w K L1 env ah1 H1) (S : Stp L1 [] ah1 H1 L2 [] ah2 H2) (hr2 : HR P w K L2 [] ah2 H2) : Go P w K L1 env ah1 H1 { L2 with al := L1.al } ah2 H2 := by
  have le : Le L1 { L2 with al := L1.al } := ⟨S.le.same, S.le.k, S.le.mu⟩
  have le2 : Le L2 { L2 with al := L1.al } := ⟨Same.refl _, Nat.le_refl _, fun _ _ => rfl⟩
  have shr : ∀ {n d}, at' env ah2 (.inr n) = some d → at' [] ah2 (.inr n) = some d := fun h => h
  have nosh : ∀ {i d}, at' env ah1 (.inl i) = some d → ∀ l e, at' [] ah1 l = some e → L1.ad l ≠ L1.al i := fun {i d} h l e h' z => by
    have := hr.inj l (.inl i) e d (at_nil h') h z
    subst this
    simp [at'] at h'
  have here : ∀ {i d}, at' env ah1 (.inl i) = some d → ∃ o, H1 (L1.al i) = some o := fun {i d} h => let ⟨o, h1, _⟩ := (hr.cell _ _ h).1.there; ⟨o, h1⟩
  have keep : ∀ {i d}, at' env ah1 (.inl i) = some d → H2 (L1.al i) = H1 (L1.al i) := fun {i d} h => by
    obtain ⟨o, ho⟩ := here h
    rw [ho]
    exact S.frm _ o ho fun l e h' => nosh h l e h'
  have apart : ∀ {i d n e}, at' env ah1 (.inl i) = some d → at' [] ah2 (.inr n) = some e → L2.mu n ≠ L1.al i := fun {i d n e} h h' z => by
    rcases S.liv (.inr n) e h' with ⟨l0, d0, h0, e0⟩ | h0
    · have e0 : L1.ad l0 = L2.mu n := e0
      exact nosh h l0 d0 h0 (e0.trans z)
    · have h0 : H1 (L2.mu n) = none := h0
      obtain ⟨o, ho⟩ := here h
      rw [z, ho] at h0
      cases h0
  refine ⟨⟨le, fun a o h1 h2 => S.frm a o h1 fun l d h => h2 l d (at_nil h), fun l d h => ?_, fun a o h => ?_⟩, ⟨hr2.k, fun l d h => ?_, hr2.sub, fun l l' d d' h h' z => ?_⟩, rfl⟩
  · cases l with
    | inl i => exact .inl ⟨.inl i, d, h, rfl⟩
    | inr n =>
      rcases S.liv (.inr n) d (shr h) with ⟨l0, d0, h0, e0⟩ | h0
      · exact .inl ⟨l0, d0, at_nil h0, e0⟩
      · exact .inr h0
  · rcases S.frz a o h with h | h | ⟨l0, d0, h0, e0⟩
    · exact .inl h
    · exact .inr (.inl h)
    · exact .inr (.inr ⟨l0, d0, at_nil h0, e0⟩)
  · cases l with
    | inl i =>
      have h : at' env ah1 (.inl i) = some d := h
      refine ⟨((hr.cell _ _ h).1.at (keep h)).mono le, ?_⟩
      show L2.F (L1.al i) = none
      cases q : L2.F (L1.al i) with
      | none => rfl
      | some u =>
        rcases S.frz _ u q with z | z | ⟨l0, d0, h0, e0⟩
        · have := (hr.cell _ _ h).2
          have this : L1.F (L1.al i) = none := this
          rw [this] at z
          cases z
        · obtain ⟨o, ho⟩ := here h
          rw [ho] at z
          cases z
        · exact absurd e0 (nosh h l0 d0 h0)
    | inr n =>
      obtain ⟨c, hf⟩ := hr2.cell (.inr n) d (shr h)
      exact ⟨c.mono le2, hf⟩
  · cases l with
    | inl i =>
      cases l' with
      | inl j => exact hr.inj (.inl i) (.inl j) d d' h h' z
      | inr n => exact absurd z.symm (apart (i := i) (d := d) h (shr h'))
    | inr n =>
      cases l' with
      | inl j => exact absurd z (apart (i := j) (d := d') h' (shr h))
      | inr m => exact hr2.inj (.inr n) (.inr m) d d' (shr h) (shr h') z
theorem te_call {g : FG} {fa : FA} {Q : VK} {E : XK} (t : TE P w K (sCall g fa) σ H Q) : tCall (spF P w K g) [] E (TA P w K fa) σ H Q := by
  obtain ⟨L, env, ah, R, r, ah', e, q⟩ := t
  simp only [sCall, Option.bind_eq_some_iff] at e
  obtain ⟨⟨ds, ah1⟩, e1, ⟨r1, ah2⟩, e2, e3⟩ := e
  refine ⟨L, env, ah, R, ds, ah1, e1, fun L1 vs H1 g1 w1 => ?_⟩
  show spF P w K g (vs ++ []) H1 Q E
  rw [List.append_nil]
  refine ⟨L1, ds, ah1, g1.hr.nil, w1, r1, ah2, e2, fun L2 v H2 S2 hr2 rt2 => ?_⟩
  have g2 := Go.call g1.hr S2 hr2
  have le2 : Le L2 { L2 with al := L1.al } := ⟨Same.refl _, Nat.le_refl _, fun _ _ => rfl⟩
  cases r1 with
  | o _ => cases e3
  | v d =>
    cases e3
    exact q _ v H2 (g1.trans g2) (RD.mono le2 rt2)
  | f d =>
    cases e3
    obtain ⟨a, rfl, c, hf, hl, h0⟩ := rt2
    have h0 : H1 a = none := by
      rcases h0 with h0 | ⟨i, d, h0, _⟩
      · exact h0
      · simp at h0
    refine q _ _ H2 (g1.trans g2) (RW.back R.hr g1 ⟨a, rfl, c.mono le2, hf, fun l e he z => ?_, h0⟩)
    cases l with
    | inl i =>
      have he : at' env ah1 (.inl i) = some e := he
      obtain ⟨o, ho, _⟩ := (g1.hr.cell _ _ he).1.there
      have ho : H1 (L1.al i) = some o := ho
      have z : L1.al i = a := z
      rw [z, h0] at ho
      cases ho
    | inr n => exact hl (.inr n) e he z
end
section
variable {X : Cx} {k : Nat} {f : Addr} {fd : FuncData} {ps : List Str} {g : FG} {x : Str} {p pos : Pos} {e : Expr} {es : List Expr} {fa : FA}
theorem de_call (F : FnG X.prog X.w X.K X.mg X.base k f fd ps (spF X.prog X.w X.K g)) (hr : Room k X.A) (hgd : X.A.guards = some []) (hg : Gl X x) (hm : X.mg x = some (.ref f)) (hk : PySem.W.keepIn X.K (.ref f) = true) (hb : Binds X.K fd ps []) (ha : DA X (e :: es) fa) (hdb : (x == ("__debug__" : Str)) = false)
    (he : starEach (e :: es) X.env = (false, eval e X.env) :: starEach es X.env) (hpl : (backTo pos (starEach es X.env)).any (·.1) = false) : DE X (.Call (.Name x p) (e :: es) [] pos) (sCall g fa) :=
  weakE (pe_callF F hr hgd hg hm hk hb ha hdb he hpl) fun _ _ _ t => te_call t
theorem de_call0 (F : FnG X.prog X.w X.K X.mg X.base k f fd ps (spF X.prog X.w X.K g)) (hr : Room k X.A) (hgd : X.A.guards = some []) (hg : Gl X x) (hm : X.mg x = some (.ref f)) (hk : PySem.W.keepIn X.K (.ref f) = true) (hb : Binds X.K fd ps []) (hdb : (x == ("__debug__" : Str)) = false) :
    DE X (.Call (.Name x p) [] [] pos) (sCall g aNil) :=
  weakE (pe_callF0 F hr hgd hg hm hk hb hdb) fun σ H Q t => by
    obtain ⟨L, env, ah, R, ds, ah1, e1, q⟩ := te_call (E := fun _ _ _ => False) t
    cases e1
    exact q L [] H (Go.refl R.hr) RDs.nil
end
/- a def's meaning by its body's -/
def runF (n : Nat) (f : FS) : FG := fun args ah => (f ((args.map Sl.va) ++ List.replicate (n - args.length) Sl.un) ah).bind fun o => match o with
  | .nx _ ah' => some (.v .non, ah')
  | .rt r ah' => some (r, ah')
theorem rl_start {P : Program} {w : World} {K : PySem.W.Frag} {L : Lay} {args : List D} {vs : List V} {ah : AH} {H : Hp} {N : List Str} (hr : HR P w K L [] ah H) (h : RDs P w K L args vs) :
    Rl P w K L ((args.map Sl.va) ++ List.replicate (N.length - args.length) Sl.un) ah (L2.start N vs) H := by
  have hl := h.length
  have noow : ∀ (i : Nat) d, ((args.map Sl.va) ++ List.replicate (N.length - args.length) Sl.un)[i]? ≠ some (Sl.ow d) := fun i d q => by
    have := List.mem_of_getElem? q
    simp at this
  refine ⟨hr.less fun l d q => ?_, ⟨?_, fun i d q => ?_, fun i d q => absurd q (noow i d)⟩⟩
  · cases l with
    | inr n => exact q
    | inl i => exact absurd (at_own q) (noow i d)
  · unfold L2.start
    simp [hl]
  · unfold L2.start
    by_cases hi : i < args.length
    · rw [List.getElem?_append_left (by simpa using hi), List.getElem?_map, Option.map_eq_some_iff] at q
      obtain ⟨e, h1, h2⟩ := q
      cases h2
      obtain ⟨v, h3, h4⟩ := h.get h1
      exact ⟨v, by rw [List.getElem?_append_left (by simpa [← hl] using hi), List.getElem?_map, h3]; rfl, h4⟩
    · rw [List.getElem?_append_right (by simpa using hi), List.getElem?_replicate] at q
      split at q <;> cases q
/- the promise of a def from the rule of its body -/
theorem fnG_run {P : Program} {w : World} {K : PySem.W.Frag} {mg : Str → Option Value} {base : Heap} {k : Nat} {x qual : Str} {N ps : List Str} {st : Stmt} {f : Addr} {fd : FuncData} {b : FS} (F : Fun K x qual st f fd) (S : FnScope N ps (defScope st))
    (hbody : ∀ (cdv : Value) (A : Around) (outer : List Env) (s : Shared) (H : Hp) (E : XK), Room k (A.deeper (envOfC qual (defScope st) s.heap.objs.size f cdv)) → A.guards = some [] → DSs (cxOf CX0 P w K mg base N qual (defScope st) f cdv A outer s H E).nox (defBody st) b) :
    FnG P w K mg base (k + 1) f fd ps (fun vs H Q E => vs.length = ps.length ∧ spF P w K (runF N.length b) vs H Q E) := by
  refine fn_ofG F S (fun vs H Q E h => h.1) fun cdv A outer s H vs Q E hr hgd ⟨_, L, args, ah, hr0, hargs, r, ah', hg, q⟩ => ⟨_, (hbody cdv A outer s H E hr hgd).ps, ?_⟩
  simp only [runF, Option.bind_eq_some_iff] at hg
  obtain ⟨o, ho, hg⟩ := hg
  have R := rl_start (N := N) hr0 hargs
  have noown : ∀ {i : Nat} {d : D}, ((args.map Sl.va) ++ List.replicate (N.length - args.length) Sl.un)[i]? = some (Sl.ow d) → False := fun {i d} q => by
    have := List.mem_of_getElem? q
    simp at this
  have lower : ∀ {L' : Lay} {ah' : AH} {H' : Hp}, Stp L ((args.map Sl.va) ++ List.replicate (N.length - args.length) Sl.un) ah H L' [] ah' H' → Stp L [] ah H L' [] ah' H' := fun {L' ah' H'} S => by
    have dn : ∀ {l d}, at' ((args.map Sl.va) ++ List.replicate (N.length - args.length) Sl.un) ah l = some d → at' [] ah l = some d := fun {l d} h => by
      cases l with
      | inr n => exact h
      | inl i => exact (noown (at_own h)).elim
    refine ⟨S.le, fun a o h1 h2 => S.frm a o h1 fun l d h => h2 l d (dn h), fun l d h => ?_, fun a o h => ?_⟩
    · rcases S.liv l d h with ⟨l0, d0, h0, e0⟩ | h0
      · exact .inl ⟨l0, d0, dn h0, e0⟩
      · exact .inr h0
    · rcases S.frz a o h with h | h | ⟨l0, d0, h0, e0⟩
      · exact .inl h
      · exact .inr (.inl h)
      · exact .inr (.inr ⟨l0, d0, dn h0, e0⟩)
  refine ⟨L, _, ah, R, o, ho, ?_⟩
  cases o with
  | nx env' ah2 =>
    cases hg
    exact fun L' σ' H' S' R' => q L' .non H' (lower S'.nil) R'.hr.nil (by show RD P w K L' .non .non; rw [RD])
  | rt r' ah2 =>
    cases hg
    refine fun L' v H' S' hr' rt' => q L' v H' (lower S') hr' ?_
    cases r with
    | v d => exact rt'
    | o i => exact rt'
    | f d =>
      obtain ⟨a, e1, e2, e3, e4, e5⟩ := rt'
      refine ⟨a, e1, e2, e3, e4, ?_⟩
      rcases e5 with e5 | ⟨i, d, e5, _⟩
      · exact .inl e5
      · exact (noown e5).elim
end U

/-! U15: freezing, sharing, list(range), dict displays, dict comprehensions, update. -/
namespace U
open PySem PySem.Spec PyProof.Rows L2
/-! ### a fresh object shared -/
def sShr (f : FE) : FE := fun env ah => (f env ah).bind fun p => match p.1 with
  | .f d => some (.v (.ref p.2.length), p.2 ++ [d])
  | _ => none
section
variable {P : Program} {w : World} {K : PySem.W.Frag} {σ : List (Option V)} {H : Hp} {Q : VK}
theorem te_shr {f : FE} (t : TE P w K (sShr f) σ H Q) : TE P w K f σ H Q := by
  obtain ⟨L, env, ah, R, r, ah', e, q⟩ := t
  simp only [sShr, Option.bind_eq_some_iff] at e
  obtain ⟨⟨r1, ah1⟩, e1, e2⟩ := e
  refine ⟨L, env, ah, R, r1, ah1, e1, fun L1 v H1 g1 w1 => ?_⟩
  cases r1 with
  | v _ => cases e2
  | o _ => cases e2
  | f d =>
    cases e2
    obtain ⟨a, rfl, c, hf, hl, h0⟩ := w1
    have hk := g1.hr.k
    have le : Le L1 { L1 with mu := fun n => if n = L1.k then a else L1.mu n, k := L1.k + 1 } := ⟨Same.refl _, Nat.le_succ _, fun n h => if_neg (Nat.ne_of_lt h)⟩
    have ats : ∀ {l : Lc} {e : D}, at' env (ah1 ++ [d]) l = some e → (l = .inr L1.k ∧ e = d) ∨ (at' env ah1 l = some e ∧ Lay.ad { L1 with mu := fun n => if n = L1.k then a else L1.mu n, k := L1.k + 1 } l = L1.ad l ∧ l ≠ .inr L1.k) := fun {l e} h => by
      cases l with
      | inl i => exact .inr ⟨h, rfl, (fun z => nomatch z)⟩
      | inr n =>
        have h : (ah1 ++ [d])[n]? = some e := h
        by_cases hn : n < ah1.length
        · rw [List.getElem?_append_left hn] at h
          have ne : n ≠ L1.k := by omega
          exact .inr ⟨h, if_neg ne, fun z => ne (by cases z; rfl)⟩
        · have hn2 : n = ah1.length := by
            have := (List.getElem?_eq_some_iff.mp h).1
            simp at this
            omega
          subst hn2
          rw [List.getElem?_append_right (Nat.le_refl _)] at h
          simp at h
          exact .inl ⟨by rw [hk], h.symm⟩
    have adk : Lay.ad { L1 with mu := fun n => if n = L1.k then a else L1.mu n, k := L1.k + 1 } (.inr L1.k) = a := if_pos rfl
    refine q { L1 with mu := fun n => if n = L1.k then a else L1.mu n, k := L1.k + 1 } _ H1 ⟨⟨g1.stp.le.trans le, fun b o h1 h2 => g1.stp.frm b o h1 h2, fun l e h => ?_, g1.stp.frz⟩, ⟨by simp [hk], fun l e h => ?_, g1.hr.sub, fun l l' e e' h h' z => ?_⟩, g1.al⟩ ?_
    · rcases ats h with ⟨rfl, rfl⟩ | ⟨h2, k1, _⟩
      · rw [adk]
        exact .inr h0
      · rw [k1]
        exact g1.stp.liv l e h2
    · rcases ats h with ⟨rfl, rfl⟩ | ⟨h2, k1, _⟩
      · rw [adk]
        exact ⟨c.mono le, hf⟩
      · rw [k1]
        exact ⟨(g1.hr.cell l e h2).1.mono le, (g1.hr.cell l e h2).2⟩
    · rcases ats h with ⟨rfl, rfl⟩ | ⟨h2, k1, n1⟩
      · rcases ats h' with ⟨rfl, rfl⟩ | ⟨h3, k2, n2⟩
        · rfl
        · rw [adk, k2] at z
          exact absurd z.symm (hl l' e' h3)
      · rcases ats h' with ⟨rfl, rfl⟩ | ⟨h3, k2, n2⟩
        · rw [adk, k1] at z
          exact absurd z (hl l e h2)
        · rw [k1, k2] at z
          exact g1.hr.inj l l' e e' h2 h3 z
    · show RD P w K _ (.ref ah1.length) (.ref a)
      rw [RD]
      exact ⟨by show ah1.length < L1.k + 1; omega, by show V.ref a = V.ref (if ah1.length = L1.k then a else L1.mu ah1.length); rw [if_pos hk.symm]⟩
end
section
variable {X : Cx} {e : Expr} {pos p : Pos} {f : FE}
theorem de_shr (h : DE X e f) : DE X e (sShr f) := weakE h fun _ _ _ t => te_shr t
theorem de_frz (h : DE X e f) : DE X e (vv (vl f)) := dv_de (de_vl h)
/-! ### {} and list(range(..)) -/
def sDnew : FE := fun _ ah => some (.f (.dct []), ah)
theorem de_dnew : DE X (.Dict [] [] pos) sDnew := weakE pe_dnewK fun σ H Q ⟨L, env, ah, R, r, ah', e, q⟩ => by
  cases e
  exact fun p hp => by
    obtain ⟨hf, hl⟩ := R.hr.fresh hp
    exact q L _ _ (Go.beside R.hr hp) ⟨p, rfl, .inl ⟨[], upd_same, by rw [RDk]⟩, hf, hl, hp⟩
def sLrg (f : FE) : FE := fun env ah => (f env ah).bind fun p => match p.1 with
  | .v (.int n) => if 0 ≤ n ∧ n ≤ big then some (.f (.lst (rngD 0 n.toNat)), p.2) else none
  | _ => none
theorem rgV_rds {P : Program} {w : World} {K : PySem.W.Frag} {L : Lay} {lo : Int} {xs : List Nat} : RDs P w K L (xs.map fun (i : Nat) => D.int (lo + (i : Nat))) (xs.map fun i => V.int (lo + (i : Nat))) := by
  induction xs with
  | nil => exact RDs.nil
  | cons x xs ih => exact RDs.cons (by rw [RD]) ih
theorem de_lrg {a : Expr} {p2 pos2 : Pos} (hc : X.calm = true) (hg : Gl X "list") (hm : X.mg "list" = none) (hg2 : Gl X "range") (hm2 : X.mg "range" = none) (ha : DE X a f) (na : starEach [a] X.env = (false, eval a X.env) :: starEach [] X.env) :
    DE X (.Call (.Name "list" p) [.Call (.Name "range" p2) [a] [] pos2] [] pos) (sLrg f) := by
  refine weakE (pe_listRg hc hg hm (prg_1 hg2 hm2 ha na) rfl) fun σ H Q ⟨L, env, ah, R, r, ah', e, q⟩ => ?_
  simp only [sLrg, Option.bind_eq_some_iff] at e
  obtain ⟨⟨r1, ah1⟩, e1, e2⟩ := e
  split at e2
  · rename_i n en
    obtain rfl : r1 = .v (.int n) := en
    simp only [Option.ite_none_right_eq_some, Option.some.injEq, Prod.mk.injEq] at e2
    obtain ⟨⟨b0, b1⟩, rfl, rfl⟩ := e2
    have hbig : (big : Int) = 1000000 := rfl
    refine ⟨L, env, ah, R, _, _, e1, fun L1 x H1 g1 w1 => ⟨n, ?_, RgOk.of_le (by omega) (by omega) (by omega) (by omega), ?_⟩⟩
    · have w1 : RD X.prog X.w X.K L1 (.int n) x := w1
      rw [RD] at w1
      exact w1
    · have : rgV 0 n = (List.range n.toNat).map fun i => V.int (0 + (i : Nat)) := by unfold rgV; rw [Int.sub_zero]
      rw [this]
      exact fin_lst g1.hr rgV_rds fun L2 z H2 g2 w2 => q L2 z H2 (g1.trans g2) (RW.back R.hr g1 w2)
  · cases e2
end
/-! ### {k: v, ..}, the keys written out and unlike -/
def sDisp (ks : List Key) (fa : FA) : FE := fun env ah => (fa env ah).bind fun p => if decide ks.Nodup && decide (ks.length = p.1.length) && decide (ks.length ≤ 15) then some (.f (.dct ((ks.map keyD).zip p.1)), p.2) else none
structure DPs (X : Cx) (pos : Pos) (keys : List (Option Expr)) (values : List Expr) (ks : List Key) (fa : FA) : Prop where
  run : ∃ trs, PPs X pos keys values trs ∧ ∀ σ H (Q : List (V × V) → Hp → Prop), (∃ L env ah, Rl X.prog X.w X.K L env ah σ H ∧ ∃ ds ah', fa env ah = some (ds, ah') ∧ ∀ L' vs H', Go X.prog X.w X.K L env ah H L' ah' H' → RDs X.prog X.w X.K L' ds vs → Q ((ks.map kV).zip vs) H') → tPairs trs σ H Q
section
variable {X : Cx} {pos : Pos} {k v : Expr} {keys : List (Option Expr)} {values : List Expr} {ks : List Key} {fa : FA} {fv : FV}
theorem dps_nil : DPs X pos [] [] [] aNil := ⟨[], pps_nil, fun σ H Q ⟨L, env, ah, R, ds, ah', e, q⟩ => by
  cases e
  exact q L [] H (Go.refl R.hr) RDs.nil⟩
theorem dps_cons {key : Key} {fk : FE} (hk : PE X k (tC (kV key))) (hv : DV X v fv) (hr : DPs X pos keys values ks fa) : DPs X pos (some k :: keys) (v :: values) (key :: ks) (aCons fv fa) := by
  obtain ⟨trs, h1, h2⟩ := hr.run
  refine ⟨_, pps_cons hk hv h1, fun σ H Q ⟨L, env, ah, R, ds, ah', e, q⟩ => ?_⟩
  simp only [aCons, Option.bind_eq_some_iff, Option.some.injEq, Prod.mk.injEq] at e
  obtain ⟨⟨d1, ah1⟩, e1, ⟨ds2, ah2⟩, e2, rfl, rfl⟩ := e
  exact ⟨L, env, ah, R, d1, ah1, e1, fun L1 x H1 g1 w1 => h2 _ _ _ ⟨L1, env, ah1, R.go g1, ds2, ah2, e2, fun L2 xs H2 g2 w2 => q L2 (x :: xs) H2 (g1.trans g2) (RDs.cons (w1.mono g2.stp.le) w2)⟩⟩
theorem mergeK_nodup : ∀ (more acc : List (Key × V)), ((acc ++ more).map (·.1)).Nodup → mergeK acc more = acc ++ more
  | [], acc, _ => by rw [List.append_nil]; rfl
  | p :: r, acc, h => by
    have h1 : putK acc p.1 p.2 = acc ++ [p] := by
      unfold putK
      rw [if_neg]
      intro hc
      simp only [List.any_eq_true, decide_eq_true_eq] at hc
      obtain ⟨q, hq, e⟩ := hc
      rw [List.map_append, List.nodup_append] at h
      exact h.2.2 q.1 (List.mem_map.mpr ⟨q, hq, rfl⟩) p.1 (by simp) e
    show mergeK (putK acc p.1 p.2) r = _
    rw [h1, mergeK_nodup r (acc ++ [p]) (by rw [List.append_assoc]; exact h), List.append_assoc]
    rfl
theorem rdk_zip {P : Program} {w : World} {K : PySem.W.Frag} {L : Lay} : ∀ {ks : List Key} {ds : List D} {vs : List V}, RDs P w K L ds vs → RDk P w K L ((ks.map keyD).zip ds) (ks.zip vs)
  | [], _, _, _ => by simp [RDk]
  | k :: ks, [], _, h => by rw [RDs] at h; subst h; simp [RDk]
  | k :: ks, d :: ds, _, h => by
    rw [RDs] at h
    obtain ⟨v, r, rfl, h1, h2⟩ := h
    rw [List.map_cons, List.zip_cons_cons, List.zip_cons_cons, RDk]
    exact ⟨k, v, _, rfl, rfl, h1, rdk_zip h2⟩
theorem zip_kv : ∀ (ks : List Key) (vs : List V), (ks.map kV).zip vs = (ks.zip vs).map fun kv => (kV kv.1, kv.2)
  | [], _ => rfl
  | _ :: _, [] => rfl
  | k :: ks, v :: vs => by rw [List.map_cons, List.zip_cons_cons, List.zip_cons_cons, List.map_cons, zip_kv ks vs]
theorem de_disp (h : DPs X pos keys values ks fa) (hall : keys.all (·.isSome) = true) (hl : keys.length = values.length) (h0 : keys ≠ []) (h15 : keys.length ≤ 15) : DE X (.Dict keys values pos) (sDisp ks fa) := by
  obtain ⟨trs, h1, h2⟩ := h.run
  refine weakE (pe_disp h1 hall hl h0 h15) fun σ H Q ⟨L, env, ah, R, r, ah', e, q⟩ => ?_
  simp only [sDisp, Option.bind_eq_some_iff, Option.ite_none_right_eq_some, Bool.and_eq_true, decide_eq_true_eq, Option.some.injEq, Prod.mk.injEq] at e
  obtain ⟨⟨ds, ah1⟩, e1, ⟨⟨nd, lk⟩, l15⟩, rfl, rfl⟩ := e
  intro p hp
  have g0 := Go.beside (o := .dK []) R.hr hp
  refine h2 _ _ _ ⟨L, env, ah, R.go g0, ds, ah1, e1, fun L1 vs H1 g1 w1 => ?_⟩
  obtain ⟨hf, hl⟩ := R.hr.fresh hp
  have w0 : RW X.prog X.w X.K H L env ah (upd H p (.dK [])) (.f (.dct [])) (.ref p) := ⟨p, rfl, .inl ⟨[], upd_same, by rw [RDk]⟩, hf, hl, hp⟩
  obtain ⟨p', ep, c1, hf1, hl1, _⟩ := w0.go g1
  cases ep
  have lv : vs.length = ks.length := by rw [← w1.length]; exact lk.symm
  have c0 : H1 p = some (.dK []) := by
    have := g1.stp.frm p _ upd_same hl
    exact this
  refine ⟨c0, ks.zip vs, ?_, by rw [List.length_zip]; omega, ?_⟩
  · exact zip_kv ks vs
  · rw [mergeK_nodup (ks.zip vs) [] (by
      rw [List.nil_append, List.map_fst_zip (by omega)]
      exact nd), List.nil_append]
    refine q L1 _ _ ((g0.trans g1).poke hp hf1 hl1) ⟨p, rfl, .inl ⟨ks.zip vs, upd_same, rdk_zip w1⟩, hf1, hl1, hp⟩
end
end U

/-! U15b: dict comprehensions. -/
namespace U
open PySem PySem.Spec PyProof.Rows L2
section
variable {X : Cx} {pins : List (Addr × Obj)} {σ : L2.St} {H : Hp} {s : Shared} {L : Lay}
/- the store of a comprehension -/
theorem dict_set {E : Value → Shared → Prop} {Q : Unit → Shared → Prop} {kvs kvs' : List (D × D)} {a : Addr} {k v : D} {y z : V} {uy uz : Value} (hu : X.A.units + 10 < cLine) (I : Inv X pins σ H s) (e : Same L.F H) (h : Cel X.prog X.w X.K L H a (.dct kvs))
    (hy : RD X.prog X.w X.K L k y) (ry : RelV y uy) (hz : RD X.prog X.w X.K L v z) (rz : RelV z uz) (hp : dput kvs k v = some kvs') (q : ∀ o s', (∀ H' : Hp, H' a = some o → Cel X.prog X.w X.K L H' a (.dct kvs')) → Inv X pins σ (upd H a o) s' → Q () s') :
    wpAny (model X.prog X.w) X.A (dictSet a uy uz) Q E s := by
  unfold dput at hp
  split at hp
  · rename_i un hk
    simp only [Option.ite_none_right_eq_some, Bool.and_eq_true, decide_eq_true_eq, Option.some.injEq] at hp
    obtain ⟨⟨hs, hlt⟩, rfl⟩ := hp
    have hbig := big_line
    cases un with
    | k key =>
      obtain ⟨es, h1, h2⟩ := asK (RB.cel h) hs
      obtain rfl := kk_k hk
      obtain rfl := key_val hy
      exact d_dictSet I h1 (by rw [← rdk_len h2]; exact Nat.lt_of_lt_of_le hlt hbig) ry rz fun s' I' => q _ s' (fun H' e => .inl ⟨_, e, rdk_put h2 hz⟩) I'
    | n nk =>
      obtain ⟨hd, _, hm, xs, hx, hh⟩ := asH I e (RB.cel h) hs
      obtain ⟨b, rfl⟩ := key_tup hk hy
      cases ry
      obtain ⟨k1, k2, _⟩ := kk_n hk
      have l1 := Paired.length hh
      refine wpAny_dictSet_heap (knd := nestedKind X.prog X.w) (hsz := by rw [← l1]; omega) (by show X.A.units + 8 < cLine; omega) ⟨nested_is I e hy k1 rfl, k2⟩ hx fun h' hx' hsb => ?_
      have hr := rh_put hh hk hy hz rz
      obtain ⟨es, r1, r2⟩ := rh_back hr
      obtain ⟨o, es', ep, ho, hc, hdat, hes, _, hn⟩ := hx'
      have l3 := Paired.length r2
      have l4 := storedAllH_length [(nk, b, uz)] xs
      have l5 : storedAllH xs [(nk, b, uz)] = storedH xs nk b uz := rfl
      rw [l5] at l4
      have ne : es ≠ [] := fun z => by
        subst z
        have := Paired.length hr
        rw [← l3] at this
        unfold putD at this
        split at this
        · rename_i ha
          rw [List.length_map] at this
          have : kvs = [] := List.length_eq_zero_iff.mp this
          subst this
          simp at ha
        · simp at this
      refine q (.ext (dphi X.prog X.w a es)) _ (fun H' e => .inr ⟨es, e, ne, r1⟩) (d_write I hm hsb ⟨o, ho⟩ ⟨⟨hd, by rw [l3]; simp at l4; omega, by rw [fst_eq r2]; exact hn, _, r2, o, es', ep, ho, hc, hdat, hes⟩, ⟨o, ho⟩, ?_⟩)
      rintro g1 g2 ⟨p1, p2, p3, ys, p4, o', e1, e2, p5, p6⟩ hg
      exact ⟨p1, p2, p3, ys, p4, o', e1, e2, hg _ p5, p6⟩
  · cases hp
end
/- the store, by values -/
def rSetU (P : Program) (w : World) (K : PySem.W.Frag) : Addr → V → V → Hp → (Hp → Prop) → Prop := fun C y z H N => ∃ L kvs k v kvs', Same L.F H ∧ Cel P w K L H C (.dct kvs) ∧ RD P w K L k y ∧ RD P w K L v z ∧ dput kvs k v = some kvs' ∧
  ∀ o, (∀ H' : Hp, H' C = some o → Cel P w K L H' C (.dct kvs')) → N (upd H C o)
def tDcU (P : Program) (w : World) (K : PySem.W.Frag) (wi : TI) (g : TG) (tt : TT) (tk tv : L2.TE) (vs : List Nat) : L2.TE := fun σ H Q => wi σ H fun J H1 => ∀ C, H1 C = none → ∃ W : Nat → Nat → Hp → Prop, (∃ m, W 0 m (upd H1 C (.dK []))) ∧ ∀ i m H, W i m H →
  (J.stop i H ∧ Q (.ref C) H) ∨ (J.go i H ∧ ∃ N : Hp → Prop, (∀ H', N H' → ∃ m', m' < m ∧ W (i + 1) m' H') ∧ ∀ x H', J.yld i H x H' → g x (wipe σ vs) H' fun σ2 H2 => wipe σ2 vs = wipe σ vs ∧ tt σ2 H2 fun b H3 =>
    if b = true then tk σ2 H3 fun y H4 => tv σ2 H4 fun z H5 => rSetU P w K C y z H5 N else N H3)
section
variable {X : Cx}
theorem pe_dcU {kx vx tg iter : Expr} {ifs : List Expr} {scope : Scope} {own : List (Str × Nat)} {pos : Pos} {wi : TI} {g : TG} {tt : TT} {tk tv : L2.TE} (hu : X.A.units + 10 < cLine) (hc : X.calm = true) (hN : X.N.Nodup) (hi : PI X tg iter wi) (ok : BlkOk X.N X.env.scope scope own)
    (hg : ∀ (s : Shared) (H : Hp) (C : Addr) (cl : List (Str × Addr)) (fp : List Addr), PG (X.blk s H scope (compEnvC scope cl C X.env) fp) tg g) (ht : ∀ (s : Shared) (H : Hp) (C : Addr) (cl : List (Str × Addr)) (fp : List Addr), PTs (X.blk s H scope (compEnvC scope cl C X.env) fp) ifs tt)
    (hk : ∀ (s : Shared) (H : Hp) (C : Addr) (cl : List (Str × Addr)) (fp : List Addr), PE (X.blk s H scope (compEnvC scope cl C X.env) fp) kx tk) (he : ∀ (s : Shared) (H : Hp) (C : Addr) (cl : List (Str × Addr)) (fp : List Addr), PE (X.blk s H scope (compEnvC scope cl C X.env) fp) vx tv)
    (hs : ∀ x, foldedSetIterable iter X.env x = pure x) : PE X (.DictComp kx vx [⟨tg, iter, ifs, 0⟩] scope pos) (tDcU X.prog X.w X.K wi g tt tk tv (own.map (·.2))) := by
  refine ⟨fun pins s σ H Q I h => ?_⟩
  rw [arm_eval_DictComp]
  have hfree : ∀ y ∈ scope.names, y.2 = .free → ∃ c, X.env.cells.lookup y.1 = some c := fun y hy e => (ok.free y hy e).elim (fun k => I.ok.has _ (.inl k)) fun k => I.ok.has _ (.inr k)
  refine wpAny_comprehension_free rfl hs (closure_ok hfree) ok.kind (fun y hy e => by rw [ok.uniq y hy, e]) (thn (hi.run pins s σ H _ I h) fun xv s1 hx => thn hx fun itv s2 h2 => ?_)
  obtain ⟨it, fp, tn, J, H2, e, I2, T, st2, f2, q⟩ := h2
  subst e
  refine wpAny_newObj_type (newEnv_comp ?_)
  -- the new dict
  obtain ⟨Da, hDa⟩ : ∃ a, a = s2.heap.objs.size := ⟨_, rfl⟩
  rw [← hDa]
  have hDn : H2 Da = none := I2.hok.fresh (Nat.le_of_eq hDa.symm)
  obtain ⟨W, ⟨m0, w0⟩, turn⟩ := q Da hDn
  obtain ⟨s3, hs3⟩ : ∃ t : Shared, t = { s2 with heap := s2.heap.push { cls := .type "dict", data := .dict #[] } } := ⟨_, rfl⟩
  rw [← hs3]
  have h3 : s3.heap = s2.heap.push { cls := .type "dict", data := .dict #[] } := by rw [hs3]
  have I3 : Inv X pins σ (upd H2 Da (.dK [])) s3 := by
    rw [hs3]
    refine I2.laid (t' := s2.toks) (fun b o e => Heap.get?_push_of_some _ e) (Nat.le_of_eq hDa.symm) ?_
    rw [hDa]
    exact dk_empty s2.heap I2.big
  have f3 : ∀ b ∈ fp, FpOk X pins (upd H2 Da (.dK [])) b ∧ b < s3.heap.objs.size := fun b hb => by
    obtain ⟨o, eo, _⟩ := T.obj _ _ st2 b hb
    have hlt := Heap.lt_size eo
    refine ⟨⟨?_, (f2 b hb).2⟩, by rw [h3, Heap.size_push]; exact Nat.lt_succ_of_lt hlt⟩
    rw [upd_ne (by rw [hDa]; exact Nat.ne_of_lt hlt)]
    exact (f2 b hb).1
  have st3 : tn 0 s3.heap := T.keep _ _ _ st2 fun b _ o e => by rw [h3]; exact Heap.get?_push_of_some _ e
  have I4 := block_start I3 ok hN f3
  obtain ⟨H3, hH3⟩ : ∃ h, h = upd H2 Da (.dK []) := ⟨_, rfl⟩
  rw [← hH3] at I3 f3 I4 w0
  have pg := hg s3 H3 s3.heap.objs.size (cellsFrom (s3.heap.objs.size + 1) scope.names (cloFrom X.env.cells scope.names [])) fp
  have pt := ht s3 H3 s3.heap.objs.size (cellsFrom (s3.heap.objs.size + 1) scope.names (cloFrom X.env.cells scope.names [])) fp
  have pk := hk s3 H3 s3.heap.objs.size (cellsFrom (s3.heap.objs.size + 1) scope.names (cloFrom X.env.cells scope.names [])) fp
  have pv := he s3 H3 s3.heap.objs.size (cellsFrom (s3.heap.objs.size + 1) scope.names (cloFrom X.env.cells scope.names [])) fp
  show codeAny _ _ (.compStart (.DictComp kx vx [⟨tg, iter, ifs, 0⟩] scope pos) 0 (.ref it) (.ref Da) (compEnvC scope (cellsFrom (s3.heap.objs.size + 1) scope.names (cloFrom X.env.cells scope.names [])) s3.heap.objs.size X.env))
    (compPost (model X.prog X.w) X.A X.xe none (EP X pins σ Q) (.ref Da) s3.heap.objs.size) { s3 with heap := pushCells (s3.heap.push { cls := .type "dict", data := .dict #[] }) scope.names }
  generalize hce : compEnvC scope (cellsFrom (s3.heap.objs.size + 1) scope.names (cloFrom X.env.cells scope.names [])) s3.heap.objs.size X.env = ce at I4 pg pt pk pv ⊢
  have cL : ce.locals = s3.heap.objs.size := by subst hce; rfl
  generalize hs4 : ({ s3 with heap := pushCells (s3.heap.push { cls := .type "dict", data := .dict #[] }) scope.names } : Shared) = s4 at I4 ⊢
  have st4 : tn 0 s4.heap := T.keep _ _ _ st3 fun b _ o e => by rw [← hs4]; exact pushCells_keeps _ _ _ _ (Heap.get?_push_of_some _ e)
  have stat : ∀ {σ' : L2.St} {H' : Hp} {s' : Shared}, Inv (X.blk s3 H3 scope ce fp) [] σ' H' s' → (∀ b ∈ fp, H' b = none) → ∀ b ∈ fp, FpOk (X.blk s3 H3 scope ce fp) [] H' b := fun {σ' H' s'} I' hn b hb =>
    ⟨hn b hb, (I'.ok.exf b hb).1, I'.ok.exfs b hb, .inl hb, (I'.ok.exf b hb).2, fun p hp => by simp at hp⟩
  have loop : codeAny (model X.prog X.w) X.A (.compLoop (.DictComp kx vx [⟨tg, iter, ifs, 0⟩] scope pos) 0 (.ref it) (.ref Da) ce) (compPost (model X.prog X.w) X.A X.xe none (EP X pins σ Q) (.ref Da) s3.heap.objs.size) s4 := by
    refine compLoop_anyD (fun n s' => ∃ i H', Inv (X.blk s3 H3 scope ce fp) [] (wipe σ (own.map (·.2))) H' s' ∧ tn i s'.heap ∧ (∀ b ∈ fp, H' b = none) ∧ W i n H') ?_ m0 ⟨0, H3, I4, st4, fun b hb => (f3 b hb).1.1, w0⟩
    rintro n s5 ⟨i, H5, I5, st5, n5, w5⟩
    rcases turn i n H5 w5 with ⟨stop, qq⟩ | ⟨go, N, hNx, step⟩
    · refine thnF (T.done (X.blk s3 H3 scope ce fp) rfl rfl rfl hc i [] s5 _ H5 (fun _ _ => False) I5 (stat I5 n5) st5 stop) fun r s6 ⟨hr, I6⟩ => ?_
      subst hr
      have I7 : Inv X pins σ H5 s6 := I3.call' (ch := fp) I6.os I6.base I6.hok I6.bare fun b hb => ⟨(f3 b hb).1.2.2.2.1, (f3 b hb).1.2.1, (f3 b hb).1.2.2.2.2.1, (f3 b hb).1.2.2.2.2.2⟩
      have nC : H5 ce.locals = none := I6.free
      obtain ⟨m, hn, _⟩ := I6.loc
      have hn : s6.heap.Ns ce.locals m := hn
      rw [cL] at hn nC
      refine ⟨m, hn, fun h'' sb => ?_⟩
      obtain ⟨y0, y1, y2, y3, y4, y5⟩ := I3.fpOk (Nat.le_refl _) nC
      exact ⟨.ref Da, H5, I7.turned (t' := s6.toks) (fun b o hb e => (sb.2 b hb).trans e) y0 y1 y3 y4 y5, rfl, qq⟩
    · refine thnF (T.item (X.blk s3 H3 scope ce fp) rfl rfl rfl hc i [] s5 _ H5 (fun _ _ => False) I5 (stat I5 n5) st5 go) fun r s6 ⟨u, hr, h6⟩ => ?_
      subst hr
      refine thnF h6 fun _ s7 ⟨x, H7, I7, r7, y7, st7, n7⟩ => ?_
      refine thnF (pg.run _ s7 _ H7 x u _ (I7.pinned (stat I7 n7) (T.obj _ _ st7)) r7 (step x H7 y7)) fun _ s8 ⟨σ8, H8, I8, hw8, q8⟩ => ?_
      refine thnF (pt.run _ s8 σ8 H8 _ I8 q8) fun b s9 ⟨H9, I9, q9⟩ => ?_
      have fin : ∀ {s' : Shared} {H' : Hp}, Inv (X.blk s3 H3 scope ce fp) ([] ++ pinsAt fp s7.heap) σ8 H' s' → N H' → ∃ m, m < n ∧ ∃ i H', Inv (X.blk s3 H3 scope ce fp) [] (wipe σ (own.map (·.2))) H' s' ∧ tn i s'.heap ∧ (∀ b ∈ fp, H' b = none) ∧ W i m H' := fun {s' H'} I' nx => by
        obtain ⟨m', hm, w'⟩ := hNx H' nx
        have pin' : ∀ b ∈ fp, ∀ o, s7.heap.get? b = some o → s'.heap.get? b = some o ∧ H' b = none := fun b hb o e =>
          ⟨(I'.pin (b, o) (List.mem_append_right _ (List.mem_append_right _ (mem_pinsAt hb e)))).1, (I'.pin (b, o) (List.mem_append_right _ (List.mem_append_right _ (mem_pinsAt hb e)))).2.1⟩
        refine ⟨m', hm, i + 1, H', (I'.unpinned (pins := [])).weak (by rw [← hw8, wipe_length]) (fun j v e => (wipe_some (vs := own.map (·.2)) (by rw [hw8]; exact e)).1), T.keep _ _ _ st7 fun b hb o e => (pin' b hb o e).1, fun b hb => ?_, w'⟩
        obtain ⟨o, e, _⟩ := T.obj _ _ st7 b hb
        exact (pin' b hb o e).2
      cases b with
      | false =>
        simp only [Bool.false_eq_true, if_false] at q9 ⊢
        exact fin I9 q9
      | true =>
        simp only [if_true] at q9 ⊢
        refine thnF (pk.run _ s9 σ8 H9 _ I9 q9) fun z s10 ⟨yk, H10, I10, r10, q10⟩ => ?_
        refine thnF (pv.run _ s10 σ8 H10 _ I10 q10) fun z2 s11 ⟨yv, H11, I11, r11, L, kvs, k, v, kvs', sm, ce11, rk, rv, hp, nx⟩ => ?_
        exact dict_set (X := X.blk s3 H3 scope ce fp) hu I11 sm ce11 rk r10 rv r11 hp fun o s12 hc12 I12 => fin I12 (nx o hc12)
  exact codeAny_compStart_dict loop (T.self X.A 0 _ _ _ st4 loop)
end
/-! ### {k: v for t in it if c} -/
def dcGo (t : Tg) (c : FB) (k v : FV) (env0 : Ev) : List D → List (D × D) → AH → Option (List (D × D) × AH)
  | [], acc, ah => some (acc, ah)
  | d :: ds, acc, ah => (bindT t d env0).bind fun env => (c env ah).bind fun p => if p.1 then (k env p.2).bind fun q => (v env q.2).bind fun r => (dput acc q.1 r.1).bind fun acc' => dcGo t c k v env0 ds acc' r.2 else dcGo t c k v env0 ds acc p.2
def sDc (it : FI) (t : Tg) (vs : List Nat) (c : FB) (k v : FV) : FE := fun env ah => (it env ah).bind fun p => if tgIn t vs && noOw env vs then (dcGo t c k v (wipeE env vs) p.1.1 [] p.2).map fun q => (.f (.dct q.1), q.2) else none
section
variable {P : Program} {w : World} {K : PySem.W.Frag} {it : FI} {t : Tg} {vs : List Nat} {c : FB} {k v : FV} {σ : List (Option V)} {H : Hp} {Q : VK}
theorem te_dc (T : TE P w K (sDc it t vs c k v) σ H Q) : tDcU P w K (TIo P w K it) (TGo P w K t) (TB P w K c) (TV P w K k) (TV P w K v) vs σ H Q := by
  obtain ⟨L, env, ah, R, r, ah', e1, q⟩ := T
  simp only [sDc, Option.bind_eq_some_iff, Option.ite_none_right_eq_some, Bool.and_eq_true, Option.map_eq_some_iff] at e1
  obtain ⟨⟨⟨ds, gu⟩, ah1⟩, e1, ⟨hty, hno⟩, ⟨ys, ah2⟩, e2, e3⟩ := e1
  cases e3
  obtain ⟨eq0, no0⟩ := wipeE_ok hno hno
  refine ⟨L, env, ah, R, ds, gu, ah1, e1, fun L1 J H1 g1 ⟨G, Y, wk, hw⟩ hgu C hC => ?_⟩
  let Pv : Nat → Hp → Prop := fun i Hc => ∃ L2 ahc acc, Go P w K L1 env ah1 H1 L2 ahc Hc ∧ RW P w K H1 L2 env ahc Hc (.f (.dct acc)) (.ref C) ∧ dcGo t c k v (wipeE env vs) (ds.drop i) acc ahc = some (ys, ah2)
  have gd : ∀ {L2 ahc Hc}, Go P w K L1 env ah1 H1 L2 ahc Hc → ∀ j d, gu = some (j, d) → env[j]? = some (Sl.ow d) ∧ L2.al j = L1.al j := fun g j d z => ⟨hgu j d z, by rw [g.al]⟩
  refine ⟨fun i m Hc => m = ds.length - i ∧ i ≤ ds.length ∧ Pv i Hc, ⟨ds.length, by simp, Nat.zero_le _, ?_⟩, ?_⟩
  · obtain ⟨hf, hl⟩ := g1.hr.fresh hC
    exact ⟨L1, ah1, [], Go.beside g1.hr hC, ⟨C, rfl, .inl ⟨[], upd_same, by rw [RDk]⟩, hf, hl, hC⟩, by rw [List.drop_zero]; exact e2⟩
  rintro i m Hc ⟨rfl, hi, L2, ahc, acc, g, rw1, go⟩
  have hG := hw L2 env ahc Hc g.stp.le g.hr (gd g)
  by_cases hlt : i < ds.length
  · refine .inr ⟨wk.goes i Hc hlt hG.1, Pv (i + 1), fun H' p' => ⟨ds.length - (i + 1), by omega, rfl, hlt, p'⟩, fun x Hx y => ?_⟩
    obtain ⟨L3, d, g3, hd, hx⟩ := hG.2 i x Hx hlt (wk.yields i Hc x Hx hlt hG.1 y)
    rw [List.drop_eq_getElem_cons hlt] at go
    have hd' : ds[i] = d := by rw [List.getElem?_eq_getElem hlt] at hd; exact Option.some.inj hd
    rw [hd'] at go
    simp only [dcGo, Option.bind_eq_some_iff] at go
    obtain ⟨env1, b1, ⟨b, ahb⟩, c1, go⟩ := go
    obtain ⟨eq1, no1⟩ := bindT_ok b1 hty no0
    have eqe : EqA env1 env := eq1.trans eq0
    have gg := g.trans g3
    have rl0 : Rl P w K L3 (wipeE env vs) ahc (wipe σ vs) Hx := ⟨gg.hr.eqv eq0.symm, ((R.sr.mono g1.stp.le g1.al).mono gg.stp.le gg.al).wipe vs⟩
    refine ⟨L3, wipeE env vs, ahc, d, env1, rl0, hx, b1, fun σ2 R2 wv => ⟨(wv vs hty).trans (wipe_wipe vs), L3, env1, ahc, R2, b, ahb, c1, fun L4 H4 g4 => ?_⟩⟩
    have g4' := g4.eqv eqe
    cases b with
    | false =>
      simp only [Bool.false_eq_true, if_false] at go ⊢
      exact ⟨L4, ahb, acc, gg.trans g4', (rw1.go g3).go g4', go⟩
    | true =>
      simp only [if_true, Option.bind_eq_some_iff] at go
      obtain ⟨⟨yk, ahk⟩, c2, ⟨yv, ahv⟩, c3, acc', c4, c5⟩ := go
      simp only [if_true]
      refine ⟨L4, env1, ahb, R2.go g4, yk, ahk, c2, fun L5 uk H5 g5 hk => ⟨L5, env1, ahk, (R2.go g4).go g5, yv, ahv, c3, fun L6 uv H6 g6 hv => ?_⟩⟩
      have g5' := g5.eqv eqe
      have g6' := g6.eqv eqe
      have gall := ((gg.trans g4').trans g5').trans g6'
      obtain ⟨C', ec, ce, hf, hl, h0⟩ := (((rw1.go g3).go g4').go g5').go g6'
      cases ec
      exact ⟨L6, acc, yk, yv, acc', gall.hr.sub, ce, hk.mono g6.stp.le, hv, c4, fun o ho => ⟨L6, ahv, acc', gall.poke hC hf hl, ⟨C, rfl, ho _ upd_same, hf, hl, hC⟩, c5⟩⟩
  · have e : i = ds.length := by omega
    subst e
    rw [List.drop_length] at go
    cases go
    exact .inl ⟨wk.stops Hc hG.1, q L2 _ Hc (g1.trans g) (RW.back R.hr g1 rw1)⟩
end
section
variable {X : Cx}
theorem de_dc {kx vx tg iter : Expr} {ifs : List Expr} {scope : Scope} {own : List (Str × Nat)} {pos : Pos} {it : FI} {t : Tg} {c : FB} {k v : FV} (hu : X.A.units + 10 < cLine) (hc : X.calm = true) (hN : X.N.Nodup) (hi : DI X tg iter it) (ok : BlkOk X.N X.env.scope scope own)
    (hg : ∀ (s : Shared) (H : Hp) (C : Addr) (cl : List (Str × Addr)) (fp : List Addr), DG (X.blk s H scope (compEnvC scope cl C X.env) fp) tg t)
    (ht : ∀ (s : Shared) (H : Hp) (C : Addr) (cl : List (Str × Addr)) (fp : List Addr), PTs (X.blk s H scope (compEnvC scope cl C X.env) fp) ifs (TB X.prog X.w X.K c))
    (hk : ∀ (s : Shared) (H : Hp) (C : Addr) (cl : List (Str × Addr)) (fp : List Addr), DV (X.blk s H scope (compEnvC scope cl C X.env) fp) kx k)
    (hv : ∀ (s : Shared) (H : Hp) (C : Addr) (cl : List (Str × Addr)) (fp : List Addr), DV (X.blk s H scope (compEnvC scope cl C X.env) fp) vx v) (hs : ∀ x, foldedSetIterable iter X.env x = pure x) :
    DE X (.DictComp kx vx [⟨tg, iter, ifs, 0⟩] scope pos) (sDc it t (own.map (·.2)) c k v) :=
  weakE (pe_dcU hu hc hN hi.pi ok (fun s H C cl fp => (hg s H C cl fp).pg) ht hk hv hs) fun _ _ _ T => te_dc T
end
end U

/-! U15c: d.update(d2), the keys tuples. -/
namespace U
open PySem PySem.Spec PyProof.Rows L2
mutual
def hkey : NestedKey → Option Int
  | .none => some (reduceHash 0xFCA86420)
  | .num i => some (hashInt i)
  | .text _ => none
  | .tup ks => (hkeys ks).map fun hs => reduceHash (Builtin.Tuple.tupleHashOf hs)
def hkeys : List NestedKey → Option (List Int)
  | [] => some []
  | k :: ks => match hkey k, hkeys ks with
    | some h, some hs => some (h :: hs)
    | _, _ => none
end
mutual
theorem hkey_is (w : World) : ∀ {k : NestedKey} {h : Int}, hkey k = some h → k.hash w = h
  | .none, h, e => by
    simp only [hkey, Option.some.injEq] at e
    rw [← e, NestedKey.hash]
  | .num i, h, e => by
    simp only [hkey, Option.some.injEq] at e
    rw [← e, NestedKey.hash]
  | .text _, h, e => by simp [hkey] at e
  | .tup ks, h, e => by
    simp only [hkey, Option.map_eq_some_iff] at e
    obtain ⟨hs, e1, rfl⟩ := e
    rw [NestedKey.hash, hkeys_is w e1]
theorem hkeys_is (w : World) : ∀ {ks : List NestedKey} {hs : List Int}, hkeys ks = some hs → NestedKey.hashes w ks = hs
  | [], hs, e => by
    simp only [hkeys, Option.some.injEq] at e
    rw [← e, NestedKey.hashes]
  | k :: ks, hs, e => by
    unfold hkeys at e
    split at e
    · rename_i h hs' e1 e2
      cases e
      rw [NestedKey.hashes, hkey_is w e1, hkeys_is w e2]
    · cases e
end
def kHash (k : D) : Option Int := match kk k with
  | some (.n nk) => hkey nk
  | _ => none
/- no two keys hash alike -/
def apart (more : List (D × D)) : Bool := (more.all fun p => (kHash p.1).isSome) && decide (more.map fun p => kHash p.1).Nodup
def dputsK : List (D × D) → List (D × D) → Option (List (D × D))
  | acc, [] => some acc
  | acc, (k, v) :: r => if isN k then (dput acc k v).bind fun acc' => dputsK acc' r else none
def updD : D → D → Option D
  | .dct kvs, .dct more => if (!kvs.isEmpty || apart more) && sameKind kvs (.n .none) && decide (kvs.length + more.length ≤ big) then (dputsK kvs more).map .dct else none
  | _, _ => none
def isDct : D → Bool
  | .dct _ => true
  | _ => false
def fUpd (fo : FE) (fv : FV) : FS := fun env ah => (fo env ah).bind fun p => (locOf p.1).bind fun l => (at' env p.2 l).bind fun d0 => if isDct d0 then (fv env p.2).bind fun q => (at' env q.2 l).bind fun d => (updD d q.1).map fun d' => .nx (upE env l d') (upA q.2 l d') else none
section
variable {X : Cx} {pins : List (Addr × Obj)} {σ : L2.St} {H : Hp} {s : Shared} {L : Lay}
theorem dputsK_rh : ∀ {more acc kvs : List (D × D)} {ys xs : List (NestedKey × Addr × Value)}, RH X.prog X.w X.K L more ys → dputsK acc more = some kvs → RH X.prog X.w X.K L acc xs → RH X.prog X.w X.K L kvs (storedAllH xs ys)
  | [], acc, kvs, ys, xs, h, e, ha => by
    cases h
    cases e
    exact ha
  | (k, v) :: more, acc, kvs, ys, xs, h, e, ha => by
    cases h with
    | @cons p q ps qs hp hq =>
      obtain ⟨k1, k2, z, k3, k4⟩ := hp
      simp only [dputsK, Option.ite_none_right_eq_some, Option.bind_eq_some_iff] at e
      obtain ⟨hk, acc', hput, e⟩ := e
      obtain ⟨nk, n1, n2, n3, rfl⟩ := dput_n hput hk
      rw [n1] at k1
      cases k1
      exact dputsK_rh (xs := storedH xs q.1 q.2.1 q.2.2) hq e (rh_put ha n1 k2 k3 k4)
theorem dputsK_keys : ∀ {more acc kvs : List (D × D)}, dputsK acc more = some kvs → sameKind more (.n .none) = true
  | [], acc, kvs, e => rfl
  | (k, v) :: more, acc, kvs, e => by
    simp only [dputsK, Option.ite_none_right_eq_some, Option.bind_eq_some_iff] at e
    obtain ⟨hk, acc', hput, e⟩ := e
    obtain ⟨nk, n1, _⟩ := dput_n hput hk
    have := dputsK_keys e
    unfold sameKind at this ⊢
    rw [List.all_cons, this, Bool.and_true]
    show (match kk k with | some u' => u'.isK == KK.isK (.n .none) | none => false) = true
    rw [n1]
    rfl
theorem dputsK_len : ∀ {more acc kvs : List (D × D)}, acc.length ≤ big → dputsK acc more = some kvs → kvs.length ≤ big
  | [], acc, kvs, h, e => by cases e; exact h
  | (k, v) :: more, acc, kvs, h, e => by
    simp only [dputsK, Option.ite_none_right_eq_some, Option.bind_eq_some_iff] at e
    obtain ⟨hk, acc', hput, e⟩ := e
    obtain ⟨nk, n1, n2, n3, rfl⟩ := dput_n hput hk
    have := putD_len acc (.n nk) k v
    exact dputsK_len (by omega) e
theorem rh_hash {more : List (D × D)} {ys : List (NestedKey × Addr × Value)} (h : RH X.prog X.w X.K L more ys) (ha : apart more = true) : (ys.map fun y => (nestedKind X.prog X.w).hash y.1).Nodup := by
  simp only [apart, Bool.and_eq_true, List.all_eq_true, decide_eq_true_eq] at ha
  obtain ⟨h1, h2⟩ := ha
  have e : more.map (fun p => kHash p.1) = (ys.map fun y => (nestedKind X.prog X.w).hash y.1).map some := by
    clear h2
    induction h with
    | nil => rfl
    | @cons p q ps qs hp hq ih =>
      rw [List.map_cons, List.map_cons, List.map_cons, ih fun x hx => h1 x (List.mem_cons_of_mem _ hx)]
      congr 1
      have := h1 p (List.mem_cons_self ..)
      obtain ⟨x, hx⟩ := Option.isSome_iff_exists.mp this
      rw [hx]
      unfold kHash at hx
      rw [hp.1] at hx
      have hx : hkey q.1 = some x := hx
      show some x = some (q.1.hash X.w)
      rw [hkey_is X.w hx]
  rw [e] at h2
  exact List.Pairwise.of_map some (fun a b h e => h (by rw [e])) h2
/- the object of a dict, written -/
theorem dict_obj {h' : Heap} {a : Addr} {kvs : List (D × D)} {xs : List (NestedKey × Addr × Value)} (hd : (a == sysModules) = false) (hx : h'.DictOfH (nestedKind X.prog X.w) a xs) (hh : RH X.prog X.w X.K L kvs xs) (hz : kvs.length ≤ sizeLine) :
    ∃ o, (∀ H' : Hp, ObjOk X.prog X.w H' h' a o) ∧ ∀ H2 : Hp, H2 a = some o → Cel X.prog X.w X.K L H2 a (.dct kvs) := by
  obtain ⟨o, es', ep, ho, hc, hdat, hes, _, hn⟩ := hx
  cases hh with
  | nil =>
    refine ⟨.dK [], fun _ => ⟨Nat.zero_le _, hd, [], .nil, o, es', ep, ho, hc, hdat, ?_, ?_, List.nodup_nil⟩, fun H2 e => .inl ⟨[], e, by rw [RDk]⟩⟩
    · have e0 : es' = #[] := Array.toList_eq_nil_iff.mp hes
      subst e0
      intro a ha
      simp at ha
    · rw [hes]
      exact .nil
  | @cons p q ps qs hp hq =>
    obtain ⟨es, r1, r2⟩ := rh_back (Paired.cons hp hq)
    have l3 := Paired.length r2
    have l4 : (p :: ps).length = (q :: qs).length := Paired.length (Paired.cons hp hq)
    have ne : es ≠ [] := fun z => by
      subst z
      simp at l3
    refine ⟨.ext (dphi X.prog X.w a es), fun _ => ⟨⟨hd, by rw [l3, ← l4]; exact hz, by rw [fst_eq r2]; exact hn, _, r2, o, es', ep, ho, hc, hdat, hes⟩, ⟨o, ho⟩, ?_⟩, fun H2 e => .inr ⟨es, e, ne, r1⟩⟩
    rintro g1 g2 ⟨p1, p2, p3, ys, p4, o', e1, e2, p5, p6⟩ hg
    exact ⟨p1, p2, p3, ys, p4, o', e1, e2, hg _ p5, p6⟩
theorem ds_upd {o e : Expr} {fo : FE} {fv : FV} {pos apos cpos : Pos} (hu : X.A.units + 100 < cLine) (ho : DE X o fo) (hv : DV X e fv) (hbase : attributeBase o "update" X.env (eval o X.env) = eval o X.env) (hstar : starEach [e] X.env = (false, eval e X.env) :: starEach [] X.env) (hline : (apos.endLine == cpos.line) = true) :
    DS X (.Expr (.Call (.Attribute o "update" apos) [e] [] cpos) pos) (fUpd fo fv) := by
  refine ⟨⟨fun pins s σ H Z I ⟨L, env, ah, R, out, e0, q⟩ => ?_⟩⟩
  simp only [fUpd, Option.bind_eq_some_iff, Option.map_eq_some_iff, Option.ite_none_right_eq_some] at e0
  obtain ⟨⟨r1, ah1⟩, e1, l, e3, d0, e7, e8, ⟨z, ah2⟩, e2, d, e4, d', e5, rfl⟩ := e0
  refine wpAny_Expr_any (Q := fun f s' => SP X pins Z f s') ?_ I.quiet rfl
  refine wpAny_Call_method_late hbase (by rw [hstar]; rfl) hline rfl (thn (ho.run pins s σ H (fun x H1 => ∃ L1, Go X.prog X.w X.K L env ah H L1 ah1 H1 ∧ RW X.prog X.w X.K H L1 env ah1 H1 r1 x) I ⟨L, env, ah, R, r1, ah1, e1, fun L1 x H1 g1 w1 => ⟨L1, g1, w1⟩⟩) fun v s1 ⟨x, H1, I1, rx, L1, g1, w1⟩ => ?_)
  obtain rfl := loc_at w1 e3
  cases rx
  have R1 := R.go g1
  have exd : ∃ ob, s1.heap.get? (L1.ad l) = some ob ∧ ob.ExactDict := by
    cases d0 <;> simp only [isDct] at e8 <;> try (cases e8; done)
    rcases dct_cases I1 R1.hr.sub (RB.cel (R1.hr.cell l _ e7).1) with ⟨es, h1, h2⟩ | ⟨hd, hz, xs, h1, h2⟩
    · obtain ⟨_, _, _, _, o, _, _, ho, hx, _⟩ := dk_of I1.hok h1
      exact ⟨o, ho, hx⟩
    · obtain ⟨o, _, _, ho, hx, _⟩ := h1
      exact ⟨o, ho, hx⟩
  obtain ⟨ob, hob, hex⟩ := exd
  refine ⟨"dict", "dict.update", PySem.F.plainAttrs_dict, PySem.F.slot_dict_update, PySem.F.type_dict_update, ⟨ob, hob, hex.1⟩, fun a ea => by cases ea; exact ⟨ob, hob, hex.2.1⟩, ?_⟩
  have hA := (pa_cons (X := X) hv pa_nil hstar).run cpos pins s1 σ H1 (fun vs H2 => ∃ y L2, vs = [y] ∧ Go X.prog X.w X.K L1 env ah1 H1 L2 ah2 H2 ∧ RD X.prog X.w X.K L2 z y) I1 ⟨L1, env, ah1, R1, z, ah2, e2, fun L2 y H2 g2 w2 => ⟨y, L2, rfl, g2, w2⟩⟩
  rw [hstar] at hA ⊢
  refine Calls.callWith_builtin rfl (Calls.evalArgs_plain (thn hA fun us s2 ⟨vs, H2, I2, rv, y, L2, evs, g2, w2⟩ => ?_))
  subst evs
  obtain ⟨u, rfl, ry⟩ := rv.one
  have R2 := R1.go g2
  have hloc := loc_at (w1.go g2) e3
  rw [V.ref.inj hloc]
  cases d <;> cases z <;> simp only [updD, Option.ite_none_right_eq_some, Option.map_eq_some_iff] at e5 <;> try (cases e5; done)
  rename_i kvs more
  obtain ⟨hc, kvs', hp, rfl⟩ := e5
  simp only [Bool.and_eq_true, Bool.or_eq_true, Bool.not_eq_true', decide_eq_true_eq] at hc
  obtain ⟨⟨hap, hsk⟩, hmz⟩ := hc
  obtain ⟨cl, hF⟩ := R2.hr.cell l _ e4
  have w2c := RB.of R2.hr.sub w2
  obtain ⟨b, rfl, w2b⟩ := rb_ref w2c
  cases ry
  obtain ⟨hd, hz1, hm, xs, hx, hh⟩ := asH I2 R2.hr.sub (RB.cel cl) hsk
  obtain ⟨hd2, hz2, _, ys, hy, hh2⟩ := asH I2 R2.hr.sub w2b (dputsK_keys hp)
  have hdo : L2.ad l ≠ b := fun z => by
    rw [RD] at w2
    obtain ⟨b', e', w2⟩ := w2
    cases e'
    rw [← z] at w2
    rcases w2 with ⟨es, h, _⟩ | ⟨es, h, _⟩ <;> (rw [hF] at h; cases h)
  have lx := Paired.length hh
  have ly := Paired.length hh2
  refine call_update_dictH (knd := nestedKind X.prog X.w) (by show X.A.units + 1 + 8 < cLine; omega) hdo hd2 hx hy ?_ (by rw [← lx, ← ly]; have := big_line; omega) fun h' hx' _ hsb => ?_
  · rcases hap with hap | hap
    · refine .inl fun z => ?_
      subst z
      exact absurd (List.length_eq_zero_iff.mp lx) (by simpa using hap)
    · exact .inr ⟨fun y hy' => nestedKind_stays.tuple (hy.choose_spec.choose_spec.choose_spec.2.2.2.2.1 y hy'), rh_hash hh2 hap⟩
  · have hl := dputsK_len (by omega) hp
    obtain ⟨ob2, ok, ce⟩ := dict_obj hd hx' (dputsK_rh hh2 hp hh) (Nat.le_trans hl big_line)
    obtain ⟨oo, _, _, hoo, _⟩ := hx'
    exact ⟨σ, _, d_write I2 hm hsb ⟨oo, hoo⟩ (ok _), q L2 σ _ ((g1.trans g2).stp.trans (Stp.poke e4)) ⟨R2.hr.poke e4 ce, R2.sr.poke e4⟩⟩
end
end U

/-! U16: the small language: its meaning, and how a text is read into it. -/
namespace U
open PySem PySem.Spec PyProof.Rows L2
inductive Cn where
  | non | bl (b : Bool) | int (i : Int) | str (x : Str)
  deriving DecidableEq
def Cn.d : Cn → D
  | .non => .non
  | .bl b => .bl b
  | .int i => .int i
  | .str x => .str x
inductive B1 where
  | len | abs | int | all | any | sum | tup | lst | sorted | dict | repr
  deriving DecidableEq
def B1.sem : B1 → O1
  | .len => lenD | .abs => absD | .int => intD | .all => allD | .any => anyD | .sum => sumD | .tup => tupD | .lst => lstD | .sorted => sortD | .dict => dctD | .repr => reprD
inductive E where
  | var (i : Nat) | cn (c : Cn) | nil | cons (a r : E) | tup (l : E) | lst (l : E)
  | bin (op : Operator) (a b : E) | cmp (op : CmpOp) (a b : E) | chn (op op' : CmpOp) (a b c : E)
  | ix (a b : E) | sl (a lo hi : E) | no | yes (a : E)
  | un (op : UnaryOp) (a : E) | not (a : E) | and (a b : E) | or (a b : E) | ite (c a b : E)
  | b1 (b : B1) (a : E) | call (j : Nat) (l : E) | pop (a : E)
  | lc (t : Tg) (vs : List Nat) (it c e : E) | dc (t : Tg) (vs : List Nat) (it c k v : E)
  | it (a : E) | rng1 (a : E) | rng2 (a b : E)
  | dnew | disp (ks : List Key) (l : E) | lrg (a : E) | frz (a : E) | shr (a : E)
  deriving DecidableEq
mutual
def E.v (G : Nat → FG) : E → FE
  | .var i => sVar i
  | .cn c => sCon c.d
  | .tup l => sTup (l.a G)
  | .lst l => sLst (l.a G)
  | .bin op a b => sOp2 (binD op) (a.v G) (b.v G)
  | .cmp op a b => sOp2 (cmpR op) (a.v G) (b.v G)
  | .chn op op' a b c => sChn (cmpD op) (cmpD op') (a.v G) (b.v G) (c.v G)
  | .ix a b => sOp2 ixD (a.v G) (b.v G)
  | .sl a lo hi => sSl (a.v G) (lo.o G) (hi.o G)
  | .un op a => sOp1 (unD op) (a.v G)
  | .not a => bE (bNot (sB (a.v G)))
  | .and a b => sAnd (sB (a.v G)) (b.v G)
  | .or a b => sOr (sB (a.v G)) (b.v G)
  | .ite c a b => sIte (sB (c.v G)) (a.v G) (b.v G)
  | .b1 b a => sOp1 b.sem (a.v G)
  | .call j l => sCall (G j) (l.a G)
  | .pop a => sPop (a.v G)
  | .lc t vs w c e => sLc (w.i G) t vs (c.c G) (vl (e.v G))
  | .dc t vs w c k v => sDc (w.i G) t vs (c.c G) (vl (k.v G)) (vl (v.v G))
  | .dnew => sDnew
  | .disp ks l => sDisp ks (l.a G)
  | .lrg a => sLrg (a.v G)
  | .frz a => vv (vl (a.v G))
  | .shr a => sShr (a.v G)
  | .nil => fun _ _ => none
  | .cons _ _ => fun _ _ => none
  | .no => fun _ _ => none
  | .yes _ => fun _ _ => none
  | .it _ => fun _ _ => none
  | .rng1 _ => fun _ _ => none
  | .rng2 _ _ => fun _ _ => none
def E.a (G : Nat → FG) : E → FA
  | .nil => aNil
  | .cons a r => aCons (vl (a.v G)) (r.a G)
  | _ => fun _ _ => none
def E.i (G : Nat → FG) : E → FI
  | .it a => iOf (a.v G)
  | .rng1 a => iRan1 (aCons (vl (a.v G)) aNil)
  | .rng2 a b => iRan2 (aCons (vl (a.v G)) (aCons (vl (b.v G)) aNil))
  | _ => fun _ _ => none
def E.o (G : Nat → FG) : E → FO
  | .no => oNone
  | .yes a => oSome (a.v G)
  | _ => fun _ _ => none
def E.c (G : Nat → FG) : E → FB
  | .no => bYes
  | .yes a => sB (a.v G)
  | _ => fun _ _ => none
end
inductive S where
  | skip | seq (a b : S) | ifS (c : E) (a b : S) | drop (e : E) | ret (e : E) | retN | asg (i : Nat) (e : E) | asgT (t : Tg) (e : E) | par (i j : Nat) (a b : E) | par3 (i j k : Nat) (a b c : E)
  | put (o i v : E) | app (o v : E) | ext (o v : E) | upd (o v : E) | for (it : E) (t : Tg) (b : S)
  deriving DecidableEq
def S.sem (G : Nat → FG) : S → FS
  | .skip => fSkip
  | .seq a b => fSeq (a.sem G) (b.sem G)
  | .ifS c a b => fIf (sB (c.v G)) (a.sem G) (b.sem G)
  | .drop e => fDrop (e.v G)
  | .ret e => fRet (e.v G)
  | .retN => fRetN
  | .asg i e => fAsg i (e.v G)
  | .asgT t e => fAsgT t (vl (e.v G))
  | .par i j a b => fPar i j (a.v G) (b.v G)
  | .par3 i j k a b c => fPar3 i j k (a.v G) (b.v G) (c.v G)
  | .put o i v => fPut (o.v G) (vl (i.v G)) (vl (v.v G))
  | .app o v => fMut appD (o.v G) (vl (v.v G))
  | .ext o v => fMut extD (o.v G) (vl (v.v G))
  | .upd o v => fUpd (o.v G) (vl (v.v G))
  | .for w t b => fFor (w.i G) t (b.sem G)
/- a def: how many parameters, how many slots, its body -/
structure Fd where
  ar : Nat
  n : Nat
  body : S
  deriving DecidableEq
def callN (T : List Fd) : Nat → Nat → FG
  | 0, _ => fun _ _ => none
  | k + 1, j => fun args ah => match T[j]? with
    | some fd => if args.length = fd.ar then runF fd.n (fd.body.sem (callN T k)) args ah else none
    | none => none

/-! ### reading a text -/
structure Ga where
  N : List Str
  fns : List Str
  own : List Str
  shr : List Str
def idx (l : List Str) (x : Str) : Option Nat := l.findIdx? fun y => decide (y = x)
def visB (sc : Scope) (x : Str) : Bool := match sc.names.lookup x with
  | some .local => true
  | some .cell => true
  | some .free => true
  | _ => false
def locB (sc : Scope) (x : Str) : Bool := match sc.names.lookup x with
  | some .local => true
  | some .cell => true
  | _ => false
def glB (sc : Scope) (x : Str) : Bool := match sc.names.lookup x with
  | some .globalImplicit => true
  | _ => false
def okName (x : Str) : Bool := decide (x ≠ Str.ofString "__debug__") && decide (x ≠ Str.ofString "__classdict__") && decide (x ≠ Str.ofString "__name__")
def bltOf (x : Str) : Option B1 :=
  if x = Str.ofString "len" then some .len else if x = Str.ofString "abs" then some .abs else if x = Str.ofString "int" then some .int else if x = Str.ofString "all" then some .all else if x = Str.ofString "any" then some .any
  else if x = Str.ofString "sum" then some .sum else if x = Str.ofString "tuple" then some .tup else if x = Str.ofString "list" then some .lst else if x = Str.ofString "sorted" then some .sorted else if x = Str.ofString "dict" then some .dict
  else if x = Str.ofString "repr" then some .repr else none
/- the block's own names, with their slots -/
def ownOf (N : List Str) (scope : Scope) : List (Str × Nat) := scope.names.filterMap fun p => match p.2 with
  | .local => (idx N p.1).map fun i => (p.1, i)
  | .cell => (idx N p.1).map fun i => (p.1, i)
  | _ => none
def locE : Expr → Bool
  | .Name _ _ => true
  | .Subscript _ _ _ => true
  | _ => false
mutual
def cT : Nat → Ga → Scope → Expr → Option Tg
  | 0, _, _, _ => none
  | n + 1, Γ, sc, .Name x _ => if locB sc x then (idx Γ.N x).map .nm else none
  | n + 1, Γ, sc, .Tuple es _ _ => (cTs n Γ sc es).map .tp
  | _ + 1, _, _, _ => none
def cTs : Nat → Ga → Scope → List Expr → Option Tg
  | 0, _, _, _ => none
  | n + 1, Γ, sc, [] => some .nil
  | n + 1, Γ, sc, e :: es => (cT n Γ sc e).bind fun a => (cTs n Γ sc es).map fun r => .cons a r
end
def keyOf : Expr → Option Key
  | .Constant (.str x) _ _ => some (.inr x)
  | .Constant (.int i) _ _ => some (.inl i)
  | _ => none
mutual
def cE : Nat → Ga → Scope → Expr → Option E
  | 0, _, _, _ => none
  | n + 1, Γ, sc, .Name x _ => if visB sc x && okName x then (idx Γ.N x).map .var else none
  | n + 1, Γ, sc, .Constant c _ _ => match c with
    | .int i => some (.cn (.int i))
    | .bool b => some (.cn (.bl b))
    | .none => some (.cn .non)
    | .str x => some (.cn (.str x))
    | _ => none
  | n + 1, Γ, sc, .Tuple es _ _ => (cA n Γ sc es).map .tup
  | n + 1, Γ, sc, .List es _ => (cA n Γ sc es).map .lst
  | n + 1, Γ, sc, .BinOp a op b _ => (cE n Γ sc a).bind fun x => (cE n Γ sc b).map fun y => .bin op x y
  | n + 1, Γ, sc, .UnaryOp op a _ => match op with
    | .Not => (cE n Γ sc a).map .not
    | .USub => (cE n Γ sc a).map (.un .USub)
    | .Invert => (cE n Γ sc a).map (.un .Invert)
    | _ => none
  | n + 1, Γ, sc, .BoolOp op es _ => cB n Γ sc op es
  | n + 1, Γ, sc, .Compare a ops cs _ => match ops, cs with
    | [op], [b] => if behindInMarks op b then none else (cE n Γ sc a).bind fun x => (cE n Γ sc b).map fun y => .cmp op x y
    | [op, op'], [b, c] => if lastMarks [op, op'] [b, c] then none else (cE n Γ sc a).bind fun x => (cE n Γ sc b).bind fun y => (cE n Γ sc c).map fun z => .chn op op' x y z
    | _, _ => none
  | n + 1, Γ, sc, .IfExp c a b _ => (cE n Γ sc c).bind fun x => (cE n Γ sc a).bind fun y => (cE n Γ sc b).map fun z => .ite x y z
  | n + 1, Γ, sc, .Subscript a b _ => match b with
    | .Slice lo hi none _ => (cE n Γ sc a).bind fun x => (cO n Γ sc lo).bind fun y => (cO n Γ sc hi).map fun z => .sl x y z
    | .Slice _ _ (some _) _ => none
    | b => (cE n Γ sc a).bind fun x => (cE n Γ sc b).map fun y => .ix x y
  | n + 1, Γ, sc, .Call f args [] pos => match f with
    | .Name x _ => if glB sc x && okName x then
        match idx Γ.fns x with
        | some j => (cA n Γ sc args).map (.call j)
        | none => match args with
          | [a] => match bltOf x with
            | some .lst => match cR n Γ sc a with
              | some y => some (.lrg y)
              | none => (cE n Γ sc a).map (.b1 .lst)
            | some b => (cE n Γ sc a).map (.b1 b)
            | none => none
          | _ => none
      else none
    | .Attribute o m apos => if m = Str.ofString "pop" ∧ locE o = true ∧ (apos.endLine == pos.line) = true then match args with
        | [] => (cE n Γ sc o).map .pop
        | _ => none
      else none
    | _ => none
  | n + 1, Γ, sc, .ListComp elt gens scope _ => match gens with
    | [⟨tg, iter, ifs, 0⟩] => if blkC Γ.N sc scope (ownOf Γ.N scope) then
        (cT n Γ scope tg).bind fun t => (cI n Γ sc iter).bind fun it => (cC n Γ scope ifs).bind fun c => (cE n Γ scope elt).map fun e => .lc t ((ownOf Γ.N scope).map (·.2)) it c e
      else none
    | _ => none
  | n + 1, Γ, sc, .DictComp k v gens scope _ => match gens with
    | [⟨tg, iter, ifs, 0⟩] => if blkC Γ.N sc scope (ownOf Γ.N scope) then
        (cT n Γ scope tg).bind fun t => (cI n Γ sc iter).bind fun it => (cC n Γ scope ifs).bind fun c => (cE n Γ scope k).bind fun k => (cE n Γ scope v).map fun v => .dc t ((ownOf Γ.N scope).map (·.2)) it c k v
      else none
    | _ => none
  | n + 1, Γ, sc, .Dict keys values _ => match keys with
    | [] => match values with
      | [] => some .dnew
      | _ => none
    | k :: ks => if (k :: ks).length = values.length ∧ (k :: ks).length ≤ 15 then (cD n Γ sc (k :: ks) values).map fun p => .disp p.1 p.2 else none
  | _ + 1, _, _, _ => none
/- range(e) as an argument of list -/
def cR : Nat → Ga → Scope → Expr → Option E
  | 0, _, _, _ => none
  | n + 1, Γ, sc, .Call (.Name x _) [a] [] _ => if x = Str.ofString "range" ∧ glB sc x = true then cE n Γ sc a else none
  | _ + 1, _, _, _ => none
def cA : Nat → Ga → Scope → List Expr → Option E
  | 0, _, _, _ => none
  | n + 1, Γ, sc, [] => some .nil
  | n + 1, Γ, sc, e :: es => (cE n Γ sc e).bind fun x => (cA n Γ sc es).map fun r => .cons x r
def cB : Nat → Ga → Scope → BoolOp → List Expr → Option E
  | 0, _, _, _, _ => none
  | n + 1, Γ, sc, op, [e] => cE n Γ sc e
  | n + 1, Γ, sc, op, e :: e2 :: es => (cE n Γ sc e).bind fun x => (cB n Γ sc op (e2 :: es)).map fun y => match op with
    | .And => .and x y
    | .Or => .or x y
  | _ + 1, _, _, _, [] => none
def cO : Nat → Ga → Scope → Option Expr → Option E
  | 0, _, _, _ => none
  | n + 1, Γ, sc, none => some .no
  | n + 1, Γ, sc, some e => (cE n Γ sc e).map .yes
def cC : Nat → Ga → Scope → List Expr → Option E
  | 0, _, _, _ => none
  | n + 1, Γ, sc, [] => some .no
  | n + 1, Γ, sc, [e] => (cE n Γ sc e).map .yes
  | _ + 1, _, _, _ => none
def cI : Nat → Ga → Scope → Expr → Option E
  | 0, _, _, _ => none
  | n + 1, Γ, sc, e => match e with
    | .Call (.Name x p) [a] [] pos => if x = Str.ofString "range" ∧ glB sc x = true then (cE n Γ sc a).map .rng1 else (cE n Γ sc (.Call (.Name x p) [a] [] pos)).map .it
    | .Call (.Name x p) [a, b] [] pos => if x = Str.ofString "range" ∧ glB sc x = true then (cE n Γ sc a).bind fun y => (cE n Γ sc b).map fun z => .rng2 y z else (cE n Γ sc (.Call (.Name x p) [a, b] [] pos)).map .it
    | e => (cE n Γ sc e).map .it
def cD : Nat → Ga → Scope → List (Option Expr) → List Expr → Option (List Key × E)
  | 0, _, _, _, _ => none
  | n + 1, Γ, sc, [], [] => some ([], .nil)
  | n + 1, Γ, sc, some k :: ks, v :: vs => (keyOf k).bind fun key => (cE n Γ sc v).bind fun x => (cD n Γ sc ks vs).map fun p => (key :: p.1, .cons (match x with
    | .lst l => .shr (.lst l)
    | .lc a b c d e => .shr (.lc a b c d e)
    | x => x) p.2)
  | _ + 1, _, _, _, _ => none
end
/- how a value is kept by the name x -/
def wrap (Γ : Ga) (x : Str) (e : E) : E := if x ∈ Γ.shr then .shr e else if x ∈ Γ.own then e else .frz e
def isLcE : Expr → Bool
  | .ListComp _ _ _ _ => true
  | .SetComp _ _ _ _ => true
  | .DictComp _ _ _ _ _ => true
  | _ => false
mutual
def cS : Nat → Ga → Scope → Stmt → Option S
  | 0, _, _, _ => none
  | n + 1, Γ, sc, .Return e _ => match e with
    | none => some .retN
    | some e => (cE n Γ sc e).map .ret
  | n + 1, Γ, sc, .If c a b _ => (cE n Γ sc c).bind fun x => (cSs n Γ sc a).bind fun y => (cSs n Γ sc b).map fun z => .ifS x y z
  | n + 1, Γ, sc, .For tg iter body orelse _ => match orelse with
    | [] => (cT n Γ sc tg).bind fun t => (cI n Γ sc iter).bind fun it => (cSs n Γ sc body).map fun b => .for it t b
    | _ => none
  | n + 1, Γ, sc, .Expr e pos => match e with
    | .Call (.Attribute o m apos) [a] [] cpos => if (apos.endLine == cpos.line) = true ∧ locE o = true then
        (cE n Γ sc o).bind fun x => (cE n Γ sc a).bind fun y => if m = Str.ofString "append" then some (.app x y) else if m = Str.ofString "extend" then some (.ext x y) else if m = Str.ofString "update" then some (.upd x y) else none
      else none
    | .Call (.Name x p) args [] cpos => (cE n Γ sc (.Call (.Name x p) args [] cpos)).map .drop
    | _ => none
  | n + 1, Γ, sc, .Assign tgs e pos => match tgs with
    | [.Name x py] => if locB sc x then (idx Γ.N x).bind fun i => (cE n Γ sc e).bind fun y => if cSw sc x py e pos then some (.asg i (wrap Γ x y)) else none else none
    | [.Subscript o i _] => match i with
      | .Slice _ _ _ _ => none
      | i => if isLcE e then none else (cE n Γ sc o).bind fun x => (cE n Γ sc i).bind fun y => (cE n Γ sc e).map fun z => .put x y z
    | [.Tuple ts kt pt] => match e with
      | .Tuple es k2 pt2 => cPar n Γ sc ts pt es
      | .Name _ _ => (cT n Γ sc (.Tuple ts kt pt)).bind fun t => (cE n Γ sc e).map fun y => .asgT t y
      | .Subscript _ _ _ => (cT n Γ sc (.Tuple ts kt pt)).bind fun t => (cE n Γ sc e).map fun y => .asgT t y
      | .Call _ _ _ _ => (cT n Γ sc (.Tuple ts kt pt)).bind fun t => (cE n Γ sc e).map fun y => .asgT t y
      | _ => none
    | _ => none
  | _ + 1, _, _, _ => none
def cSs : Nat → Ga → Scope → List Stmt → Option S
  | 0, _, _, _ => none
  | n + 1, Γ, sc, [] => some .skip
  | n + 1, Γ, sc, s :: r => (cS n Γ sc s).bind fun x => (cSs n Γ sc r).map fun y => .seq x y
/- how a comprehension's list goes to a name: on one line to a local name, or else not a comprehension -/
def cSw : Scope → Str → Pos → Expr → Pos → Bool
  | sc, x, py, .ListComp elt gens scope pos, spos => decide (sc.names.lookup x = some .cell) || (decide (sc.names.lookup x = some .local) && (py.line == pos.line) && !(scope.names.any fun p => p.1 == x && (p.2 == .local || p.2 == .cell)))
  | _, _, _, .SetComp _ _ _ _, _ => false
  | _, _, _, .DictComp _ _ _ _ _, _ => false
  | _, _, _, _, _ => true
def cPar : Nat → Ga → Scope → List Expr → Pos → List Expr → Option S
  | 0, _, _, _, _, _ => none
  | n + 1, Γ, sc, [.Name x px, .Name y py], _, [a, b] => (idx Γ.N x).bind fun i => (idx Γ.N y).bind fun j =>
      if i ≠ j ∧ x ≠ y ∧ sc.names.lookup x = some .local ∧ sc.names.lookup y = some .local ∧ py.line = px.line ∧ ([a, b].all (foldedForSure 8)) = false ∧ ([a, b].all (constantsAlone 8)) = false then
        (cE n Γ sc a).bind fun u => (cE n Γ sc b).map fun v => .par i j (wrap Γ x u) (wrap Γ y v) else none
  | n + 1, Γ, sc, [.Name x px, .Name y py, .Name z pz], _, [a, b, c] => (idx Γ.N x).bind fun i => (idx Γ.N y).bind fun j => (idx Γ.N z).bind fun l =>
      if (i ≠ j ∧ i ≠ l ∧ j ≠ l) ∧ (x ≠ y ∧ x ≠ z ∧ y ≠ z) ∧ sc.names.lookup x = some .local ∧ sc.names.lookup y = some .local ∧ sc.names.lookup z = some .local ∧ py.line = px.line ∧ pz.line = px.line ∧ ([a, b, c].all (foldedForSure 8)) = false ∧ ([a, b, c].all (constantsAlone 8)) = false then
        (cE n Γ sc a).bind fun u => (cE n Γ sc b).bind fun v => (cE n Γ sc c).map fun w => .par3 i j l (wrap Γ x u) (wrap Γ y v) (wrap Γ z w) else none
  | _ + 1, _, _, _, _, _ => none
end
end U

/-! U17: what is read means what the text does: expressions. -/
namespace U
open PySem PySem.Spec PyProof.Rows L2
structure En (X : Cx) (sc : Scope) : Prop where
  look : ∀ x k, sc.names.lookup x = some k → ∃ k', X.env.scope.names.lookup x = some k' ∧ (k' = k ∨ (k = .free ∧ k' = .cell))
  fn : ∀ x, locB sc x = true → X.fn x = true ∨ X.env.scope.names.lookup x = some .local
structure Cok (X : Cx) (Γ : Ga) (G : Nat → FG) : Prop where
  calm : X.calm = true
  nd : X.N.Nodup
  nn : X.N = Γ.N
  hu : X.A.units + 200 < cLine
  gd : X.A.guards = some []
  fns : ∀ j x, Γ.fns[j]? = some x → ∃ k f fd ps, Room k X.A ∧ FnG X.prog X.w X.K X.mg X.base k f fd ps (spF X.prog X.w X.K (G j)) ∧ X.mg x = some (.ref f) ∧ PySem.W.keepIn X.K (.ref f) = true ∧ Binds X.K fd ps []
  blt : ∀ x, (bltOf x).isSome = true ∨ x = Str.ofString "range" → X.mg x = none
theorem relabel_look {env : Env} : ∀ {names : List (Str × NameKind)} {x : Str} {k : NameKind}, names.lookup x = some k →
    ∃ k', (names.map fun (n, k) => if (k == NameKind.free && env.scope.kind == .function && env.kindOf n == some .cell) then (n, NameKind.cell) else (n, k)).lookup x = some k' ∧ (k' = k ∨ (k = .free ∧ k' = .cell))
  | [], _, _, h => by simp at h
  | (n, kn) :: r, x, k, h => by
    have c0 : ((n, kn) :: r).map (fun (n, k) => if (k == NameKind.free && env.scope.kind == .function && env.kindOf n == some .cell) then (n, NameKind.cell) else (n, k))
        = (n, if (kn == NameKind.free && env.scope.kind == .function && env.kindOf n == some .cell) = true then NameKind.cell else kn) :: r.map (fun (n, k) => if (k == NameKind.free && env.scope.kind == .function && env.kindOf n == some .cell) then (n, NameKind.cell) else (n, k)) := by
      rw [List.map_cons]
      congr 1
      show (if (kn == NameKind.free && env.scope.kind == .function && env.kindOf n == some .cell) = true then (n, NameKind.cell) else (n, kn)) = _
      split <;> rfl
    rw [c0, List.lookup_cons]
    rw [List.lookup_cons] at h
    cases e : x == n with
    | true =>
      rw [e] at h
      cases h
      by_cases c : (kn == NameKind.free && env.scope.kind == .function && env.kindOf n == some .cell) = true
      · refine ⟨.cell, by rw [if_pos c], .inr ⟨?_, rfl⟩⟩
        simp only [Bool.and_eq_true, beq_iff_eq] at c
        exact c.1.1
      · exact ⟨kn, by rw [if_neg c], .inl rfl⟩
    | false =>
      rw [e] at h
      exact relabel_look (env := env) h
theorem En.blk {X : Cx} {s : Shared} {H : Hp} {scope : Scope} {C : Addr} {cl : List (Str × Addr)} {fp : List Addr} : En (X.blk s H scope (compEnvC scope cl C X.env) fp) scope := by
  refine ⟨fun x k h => relabel_look h, fun x h => ?_⟩
  unfold locB at h
  split at h
  · rename_i e
    obtain ⟨k', h1, h2⟩ := relabel_look (env := X.env) e
    rcases h2 with rfl | ⟨z, _⟩
    · exact .inr h1
    · cases z
  · rename_i e
    exact .inl (by show (scope.names.lookup x == some .cell) = true; rw [e]; rfl)
  · cases h
section
variable {X : Cx} {sc : Scope} {Γ : Ga} {G : Nat → FG}
theorem Cok.blk (c : Cok X Γ G) {s : Shared} {H : Hp} {scope : Scope} {ce : Env} {fp : List Addr} : Cok (X.blk s H scope ce fp) Γ G := ⟨c.calm, c.nd, c.nn, c.hu, c.gd, c.fns, c.blt⟩
theorem En.vis (e : En X sc) {x : Str} (h : visB sc x = true) : Vis X.env.scope x := by
  unfold visB at h
  split at h
  · rename_i z
    obtain ⟨k', h1, rfl | ⟨h2, _⟩⟩ := e.look x _ z
    · exact .inl h1
    · cases h2
  · rename_i z
    obtain ⟨k', h1, rfl | ⟨h2, _⟩⟩ := e.look x _ z
    · exact .inr (.inl h1)
    · cases h2
  · rename_i z
    obtain ⟨k', h1, rfl | ⟨_, rfl⟩⟩ := e.look x _ z
    · exact .inr (.inr h1)
    · exact .inr (.inl h1)
  · cases h
theorem En.loc (e : En X sc) {x : Str} (h : locB sc x = true) : Loc X.env.scope x := by
  unfold locB at h
  split at h
  · rename_i z
    obtain ⟨k', h1, rfl | ⟨h2, _⟩⟩ := e.look x _ z
    · exact .inl h1
    · cases h2
  · rename_i z
    obtain ⟨k', h1, rfl | ⟨h2, _⟩⟩ := e.look x _ z
    · exact .inr h1
    · cases h2
  · cases h
theorem En.gl (e : En X sc) {x : Str} (h : glB sc x = true) : Gl X x := by
  unfold glB at h
  split at h
  · rename_i z
    obtain ⟨k', h1, rfl | ⟨h2, _⟩⟩ := e.look x _ z
    · exact h1
    · cases h2
  · cases h
theorem En.blkOk (e : En X sc) {N : List Str} {scope : Scope} {own : List (Str × Nat)} (h : blkC N sc scope own = true) : BlkOk N X.env.scope scope own := by
  have b := blkOk_by h
  refine ⟨b.kind, b.uniq, b.ix, fun y hy hf => ?_, b.own⟩
  rcases b.free y hy hf with z | z
  · obtain ⟨k', h1, rfl | ⟨h2, _⟩⟩ := e.look _ _ z
    · exact .inl h1
    · cases h2
  · obtain ⟨k', h1, rfl | ⟨_, rfl⟩⟩ := e.look _ _ z
    · exact .inr h1
    · exact .inl h1
theorem idx_get {l : List Str} {x : Str} {i : Nat} (h : idx l x = some i) : l[i]? = some x := by
  unfold idx at h
  rw [List.findIdx?_eq_some_iff_getElem] at h
  obtain ⟨h1, h2, _⟩ := h
  rw [List.getElem?_eq_getElem h1]
  simpa using h2
theorem okN {x : Str} (h : okName x = true) : (x == ("__debug__" : Str)) = false ∧ (x == ("__classdict__" : Str)) = false ∧ x ≠ "__name__" := by
  simp only [okName, Bool.and_eq_true, decide_eq_true_eq] at h
  exact ⟨beq_eq_false_iff_ne.mpr h.1.1, beq_eq_false_iff_ne.mpr h.1.2, h.2⟩
theorem star_of {n : Nat} {e : Expr} {t : E} (h : cE n Γ sc e = some t) (es : List Expr) (env : Env) : starEach (e :: es) env = (false, eval e env) :: starEach es env := by
  cases n with
  | zero => simp [cE] at h
  | succ n => cases e <;> first | rfl | simp [cE] at h
theorem fold_of {n : Nat} {e : Expr} {t : E} (h : cE n Γ sc e = some t) (env : Env) (x : Value) : foldedSetIterable e env x = pure x := by
  cases n with
  | zero => simp [cE] at h
  | succ n => cases e <;> first | rfl | simp [cE] at h
theorem args_of : ∀ {n : Nat} {es : List Expr} {t : E}, cA n Γ sc es = some t → ∀ (pos : Pos) (env : Env), (backTo pos (starEach es env)).any (·.1) = false
  | 0, es, t, h, _, _ => by simp [cA] at h
  | n + 1, [], t, h, _, _ => rfl
  | n + 1, e :: es, t, h, pos, env => by
    simp only [cA, Option.bind_eq_some_iff, Option.map_eq_some_iff] at h
    obtain ⟨x, h1, r, h2, _⟩ := h
    rw [star_of h1]
    show (false || (backTo pos (starEach es env)).any (·.1)) = false
    rw [args_of h2, Bool.or_self]
theorem base_of {o : Expr} (h : locE o = true) (m : Str) (env : Env) (whole : Sem Value) : attributeBase o m env whole = whole := by
  cases o <;> first | rfl | simp [locE] at h
theorem test_of {e : Expr} {f : FE} (h : DE X e f) (he : ∀ whole, isTrue e X.env whole = (do let v ← whole; standAt e.pos; holding [v] (truthy v))) : DB X e (sB f) := db_val h he
/- the parts of a test -/
theorem sB_bE (f : FB) : sB (bE f) = f := by
  funext env ah
  unfold sB bE
  cases f env ah with
  | none => rfl
  | some p => obtain ⟨b, ah'⟩ := p; rfl
theorem sB_and (f : FB) (g : FE) : sB (sAnd f g) = bAnd f (sB g) := by
  funext env ah
  unfold sB sAnd bAnd
  cases f env ah with
  | none => rfl
  | some p =>
    obtain ⟨b, ah'⟩ := p
    cases b <;> rfl
theorem sB_or (f : FB) (g : FE) : sB (sOr f g) = bOr f (sB g) := by
  funext env ah
  unfold sB sOr bOr
  cases f env ah with
  | none => rfl
  | some p =>
    obtain ⟨b, ah'⟩ := p
    cases b <;> rfl
theorem db_ite {c a b : Expr} {fc fa fb : FE} {pos : Pos} (hc : DB X c (sB fc)) (ha : DB X a (sB fa)) (hb : DB X b (sB fb)) : DB X (.IfExp c a b pos) (sB (sIte (sB fc) fa fb)) := by
  refine ⟨fun pins s σ H Q I ⟨L, env, ah, R, r, ah', e, q⟩ => PyProof.Rows.isTrue_IfExp ?_⟩
  simp only [sB, sIte, Option.bind_eq_some_iff] at e
  obtain ⟨⟨r1, ah1⟩, ⟨⟨b1, ah2⟩, ⟨⟨r2, ah3⟩, e1, e2⟩, e3⟩, e4⟩ := e
  have e12 : sB fc env ah = some (b1, ah2) := by simp only [sB, Option.bind_eq_some_iff]; exact ⟨_, e1, e2⟩
  refine thn (hc.run pins s σ H (fun d H1 => ∃ L1, d = b1 ∧ Go X.prog X.w X.K L env ah H L1 ah2 H1) I ⟨L, env, ah, R, b1, ah2, e12, fun L1 H1 g1 => ⟨L1, rfl, g1⟩⟩) fun d s1 ⟨H1, I1, L1, ed, g1⟩ => ?_
  subst ed
  have fin : ∀ {g : FE}, g env ah2 = some (r1, ah1) → ∃ L' env' ah0, Rl X.prog X.w X.K L' env' ah0 σ H1 ∧ ∃ b ah'', sB g env' ah0 = some (b, ah'') ∧ ∀ L2 H2, Go X.prog X.w X.K L' env' ah0 H1 L2 ah'' H2 → Q b H2 := fun {g} e3 =>
    ⟨L1, env, ah2, R.go g1, r, ah', by simp only [sB, Option.bind_eq_some_iff]; exact ⟨_, e3, e4⟩, fun L2 H2 g2 => q L2 H2 (g1.trans g2)⟩
  cases d with
  | true => exact ha.run pins s1 σ H1 Q I1 (fin e3)
  | false => exact hb.run pins s1 σ H1 Q I1 (fin e3)
/- built-in functions of one value -/
def B1.rule (X : Cx) (x : Str) (b : B1) : Prop := (∃ id, CallR X (.builtin id) (rC1 X.prog X.w X.K b.sem) ∧ bootBuiltins x = some (.builtin id)) ∨ ∃ T, CallR X (.type T) (rC1 X.prog X.w X.K b.sem) ∧ bootBuiltins x = some (.type T)
theorem b1_rule (c : Cok X Γ G) {x : Str} {b : B1} (h : bltOf x = some b) : b.rule X x := by
  have hu := c.hu
  have hu1 : X.A.units + 100 < cLine := by omega
  unfold bltOf at h
  repeat' (split at h)
  all_goals first
    | (cases h; rename_i e; subst e; first
        | exact .inl ⟨_, cr_len, by decide +kernel⟩
        | exact .inl ⟨_, cr_abs, by decide +kernel⟩
        | exact .inr ⟨_, cr_int, by decide +kernel⟩
        | exact .inl ⟨_, cr_allU c.calm, by decide +kernel⟩
        | exact .inl ⟨_, cr_anyU c.calm, by decide +kernel⟩
        | exact .inl ⟨_, cr_sumU c.calm, by decide +kernel⟩
        | exact .inr ⟨_, cr_tupU, by decide +kernel⟩
        | exact .inr ⟨_, cr_lstU c.calm, by decide +kernel⟩
        | exact .inl ⟨_, cr_sortU hu1, by decide +kernel⟩
        | exact .inr ⟨_, cr_dctU c.calm hu1, by decide +kernel⟩
        | exact .inl ⟨_, cr_repr c.gd hu1, by decide +kernel⟩)
    | cases h
theorem te_c1 {P : Program} {w : World} {K : PySem.W.Frag} {σ : List (Option V)} {H : Hp} {Q : VK} {h : O1} {f : FE} (t : TE P w K (sOp1 h f) σ H Q) : tCB (rC1 P w K h) (tCons (TE P w K f) tNil) σ H Q := by
  obtain ⟨L, env, ah, R, r, ah', e1, q⟩ := te_op1 t
  exact ⟨L, env, ah, R, r, ah', e1, fun L1 x H1 g1 w1 => ⟨x, rfl, q L1 x H1 g1 w1⟩⟩
theorem de_b1 (c : Cok X Γ G) {x : Str} {b : B1} {a : Expr} {f : FE} {p pos : Pos} (h : bltOf x = some b) (hg : Gl X x) (hn : okName x = true) (ha : DE X a f) (hs : starEach [a] X.env = (false, eval a X.env) :: starEach [] X.env) : DE X (.Call (.Name x p) [a] [] pos) (sOp1 b.sem f) := by
  have hm := c.blt x (.inl (by rw [h]; rfl))
  obtain ⟨h1, h2, h3⟩ := okN hn
  rcases b1_rule c h with ⟨id, hc, hv⟩ | ⟨T, hc, hv⟩
  · exact weakE (pe_callB hc hg hm hv (pa_cons ha pa_nil hs) h3 h1 hs rfl) fun _ _ _ t => te_c1 t
  · exact weakE (pe_callTy hc hg hm hv (pa_cons ha pa_nil hs) h3 h1 hs rfl) fun _ _ _ t => te_c1 t
end
end U

/-! U18: expressions, all of them. -/
namespace U
open PySem PySem.Spec PyProof.Rows L2
structure Snd (Γ : Ga) (G : Nat → FG) (n : Nat) : Prop where
  e : ∀ {X : Cx} {sc : Scope}, Cok X Γ G → En X sc → ∀ {e : Expr} {t : E}, cE n Γ sc e = some t → DE X e (t.v G)
  t : ∀ {X : Cx} {sc : Scope}, Cok X Γ G → En X sc → ∀ {e : Expr} {t : E}, cE n Γ sc e = some t → DB X e (sB (t.v G))
  a : ∀ {X : Cx} {sc : Scope}, Cok X Γ G → En X sc → ∀ {es : List Expr} {t : E}, cA n Γ sc es = some t → DA X es (t.a G)
  b : ∀ {X : Cx} {sc : Scope}, Cok X Γ G → En X sc → ∀ {op : BoolOp} {es : List Expr} {t : E} {pos : Pos}, cB n Γ sc op es = some t → DE X (.BoolOp op es pos) (t.v G) ∧ DW X (.BoolOp op es pos) (sB (t.v G))
  o : ∀ {X : Cx} {sc : Scope}, Cok X Γ G → En X sc → ∀ {e : Option Expr} {t : E}, cO n Γ sc e = some t → DO X e (t.o G)
  c : ∀ {X : Cx} {sc : Scope}, Cok X Γ G → En X sc → ∀ {es : List Expr} {t : E}, cC n Γ sc es = some t → PTs X es (TB X.prog X.w X.K (t.c G))
  i : ∀ {X : Cx} {sc : Scope}, Cok X Γ G → En X sc → ∀ {tg e : Expr} {t : E}, cI n Γ sc e = some t → DI X tg e (t.i G) ∧ ∀ x, foldedSetIterable e X.env x = pure x
  r : ∀ {X : Cx} {sc : Scope}, Cok X Γ G → En X sc → ∀ {e : Expr} {t : E} {p pos : Pos}, cR n Γ sc e = some t → Gl X "list" → DE X (.Call (.Name "list" p) [e] [] pos) (sLrg (t.v G))
  d : ∀ {X : Cx} {sc : Scope}, Cok X Γ G → En X sc → ∀ {ks : List (Option Expr)} {vs : List Expr} {keys : List Key} {t : E} {pos : Pos}, cD n Γ sc ks vs = some (keys, t) → DPs X pos ks vs keys (t.a G) ∧ ks.all (·.isSome) = true
mutual
theorem cT_ok {Γ : Ga} {G : Nat → FG} {X : Cx} {sc : Scope} (c : Cok X Γ G) (en : En X sc) : ∀ {n : Nat} {e : Expr} {t : Tg}, cT n Γ sc e = some t → DG X e t ∧ ∀ es env, (assignEach (e :: es) env) = (false, assign e env) :: assignEach es env
  | 0, e, t, h => by simp [cT] at h
  | n + 1, .Name x pos, t, h => by
    simp only [cT, Option.ite_none_right_eq_some, Option.map_eq_some_iff] at h
    obtain ⟨hl, i, hi, rfl⟩ := h
    exact ⟨dg_nm c.nd (by rw [c.nn]; exact idx_get hi) (en.loc hl) (en.fn x hl), fun _ _ => rfl⟩
  | n + 1, .Tuple es k pos, t, h => by
    simp only [cT, Option.map_eq_some_iff] at h
    obtain ⟨l, hl, rfl⟩ := h
    obtain ⟨h1, h2, h3⟩ := cTs_ok c en hl
    exact ⟨dg_tp c.calm h1 (h2 _) (h3 _), fun _ _ => rfl⟩
  | n + 1, .BoolOp _ _ _, t, h => by simp [cT] at h
  | n + 1, .NamedExpr _ _ _, t, h => by simp [cT] at h
  | n + 1, .BinOp _ _ _ _, t, h => by simp [cT] at h
  | n + 1, .UnaryOp _ _ _, t, h => by simp [cT] at h
  | n + 1, .Lambda _ _ _ _, t, h => by simp [cT] at h
  | n + 1, .IfExp _ _ _ _, t, h => by simp [cT] at h
  | n + 1, .Dict _ _ _, t, h => by simp [cT] at h
  | n + 1, .Set _ _ _, t, h => by simp [cT] at h
  | n + 1, .ListComp _ _ _ _, t, h => by simp [cT] at h
  | n + 1, .SetComp _ _ _ _, t, h => by simp [cT] at h
  | n + 1, .DictComp _ _ _ _ _, t, h => by simp [cT] at h
  | n + 1, .GeneratorExp _ _ _ _, t, h => by simp [cT] at h
  | n + 1, .Await _ _, t, h => by simp [cT] at h
  | n + 1, .Yield _ _, t, h => by simp [cT] at h
  | n + 1, .YieldFrom _ _, t, h => by simp [cT] at h
  | n + 1, .Compare _ _ _ _, t, h => by simp [cT] at h
  | n + 1, .Call _ _ _ _, t, h => by simp [cT] at h
  | n + 1, .FormattedValue _ _ _ _, t, h => by simp [cT] at h
  | n + 1, .JoinedStr _ _, t, h => by simp [cT] at h
  | n + 1, .Constant _ _ _, t, h => by simp [cT] at h
  | n + 1, .Attribute _ _ _, t, h => by simp [cT] at h
  | n + 1, .Subscript _ _ _, t, h => by simp [cT] at h
  | n + 1, .Starred _ _, t, h => by simp [cT] at h
  | n + 1, .List _ _, t, h => by simp [cT] at h
  | n + 1, .Slice _ _ _ _, t, h => by simp [cT] at h
theorem cTs_ok {Γ : Ga} {G : Nat → FG} {X : Cx} {sc : Scope} (c : Cok X Γ G) (en : En X sc) : ∀ {n : Nat} {es : List Expr} {t : Tg}, cTs n Γ sc es = some t → DGs X es t ∧ (∀ env, (assignEach es env).length = t.len) ∧ ∀ env, (assignEach es env).findIdx? (·.1) = none
  | 0, es, t, h => by simp [cTs] at h
  | n + 1, [], t, h => by
    simp only [cTs, Option.some.injEq] at h
    subst h
    exact ⟨dgs_nil, fun _ => rfl, fun _ => rfl⟩
  | n + 1, e :: es, t, h => by
    simp only [cTs, Option.bind_eq_some_iff, Option.map_eq_some_iff] at h
    obtain ⟨a, h1, r, h2, rfl⟩ := h
    obtain ⟨d1, s1⟩ := cT_ok c en h1
    obtain ⟨d2, l2, f2⟩ := cTs_ok c en h2
    refine ⟨dgs_cons d1 d2 (by rw [s1]; rfl), fun env => ?_, fun env => ?_⟩
    · rw [s1, List.length_cons, l2, Tg.len]
    · rw [s1, List.findIdx?_cons]
      simp [f2]
end
theorem weakPTs {X : Cx} {es : List Expr} {f g : FB} (h : PTs X es (TB X.prog X.w X.K f)) (e : f = g) : PTs X es (TB X.prog X.w X.K g) := e ▸ h
theorem snd (Γ : Ga) (G : Nat → FG) : ∀ n, Snd Γ G n
  | 0 => by
    refine ⟨?_, ?_, ?_, ?_, ?_, ?_, ?_, ?_, ?_⟩
    · intro X sc c en e t h; simp [cE] at h
    · intro X sc c en e t h; simp [cE] at h
    · intro X sc c en e t h; simp [cA] at h
    · intro X sc c en op es t pos h; simp [cB] at h
    · intro X sc c en e t h; simp [cO] at h
    · intro X sc c en e t h; simp [cC] at h
    · intro X sc c en tg e t h; simp [cI] at h
    · intro X sc c en e t p pos h; simp [cR] at h
    · intro X sc c en ks vs keys t pos h; simp [cD] at h
  | n + 1 => by
    have ih := snd Γ G n
    have hu : ∀ {X}, Cok X Γ G → X.A.units + 100 < cLine := fun c => by have := c.hu; omega
    have dbN : ∀ {op : CmpOp} {X : Cx}, True := trivial
    have main : ∀ {X : Cx} {sc : Scope}, Cok X Γ G → En X sc → ∀ {e : Expr} {t : E}, cE (n + 1) Γ sc e = some t → DE X e (t.v G) ∧ DB X e (sB (t.v G)) := by
      intro X sc c en e t h
      cases e with
      | Name x pos =>
        simp only [cE, Option.ite_none_right_eq_some, Bool.and_eq_true, Option.map_eq_some_iff] at h
        obtain ⟨⟨hv, hn⟩, i, hi, rfl⟩ := h
        obtain ⟨h1, h2, _⟩ := okN hn
        have d := de_var (pos := pos) (X := X) (by rw [c.nn]; exact idx_get hi) (en.vis hv) h1 h2
        exact ⟨d, test_of d fun _ => rfl⟩
      | Constant cc j pos =>
        simp only [cE] at h
        split at h
        · cases h; exact ⟨de_int, test_of de_int fun _ => rfl⟩
        · cases h; exact ⟨de_bl, test_of de_bl fun _ => rfl⟩
        · cases h; exact ⟨de_non, test_of de_non fun _ => rfl⟩
        · cases h; exact ⟨de_str, test_of de_str fun _ => rfl⟩
        · cases h
      | Tuple es k pos =>
        simp only [cE, Option.map_eq_some_iff] at h
        obtain ⟨l, hl, rfl⟩ := h
        exact ⟨de_tup (ih.a c en hl), test_of (de_tup (ih.a c en hl)) fun _ => rfl⟩
      | List es pos =>
        simp only [cE, Option.map_eq_some_iff] at h
        obtain ⟨l, hl, rfl⟩ := h
        exact ⟨de_lst (ih.a c en hl), test_of (de_lst (ih.a c en hl)) fun _ => rfl⟩
      | BinOp a op b pos =>
        simp only [cE, Option.bind_eq_some_iff, Option.map_eq_some_iff] at h
        obtain ⟨x, h1, y, h2, rfl⟩ := h
        have d := de_bin (op := op) (pos := pos) (ih.e c en h1) (ih.e c en h2)
        exact ⟨d, test_of d fun _ => rfl⟩
      | UnaryOp op a pos =>
        cases op <;> simp only [cE, Option.map_eq_some_iff] at h <;> try (cases h; done)
        all_goals
          obtain ⟨x, h1, rfl⟩ := h
          first
            | exact ⟨de_not (ih.e c en h1), by
                show DB X _ (sB (bE (bNot (sB (x.v G)))))
                rw [sB_bE]
                exact db_not (ih.t c en h1)⟩
            | exact ⟨de_un (.inl rfl) (ih.e c en h1), test_of (de_un (.inl rfl) (ih.e c en h1)) fun _ => rfl⟩
            | exact ⟨de_un (.inr rfl) (ih.e c en h1), test_of (de_un (.inr rfl) (ih.e c en h1)) fun _ => rfl⟩
      | BoolOp op es pos =>
        simp only [cE] at h
        obtain ⟨h1, h2⟩ := ih.b (pos := pos) c en h
        exact ⟨h1, dw_db h2⟩
      | Compare a ops cs pos =>
        simp only [cE] at h
        split at h
        · simp only [Option.ite_none_left_eq_some, Option.bind_eq_some_iff, Option.map_eq_some_iff, Bool.not_eq_true] at h
          obtain ⟨hm, x, h1, y, h2, rfl⟩ := h
          exact ⟨de_cmp (hu c) (ih.e c en h1) (ih.e c en h2) hm, db_cmp (hu c) (ih.e c en h1) (ih.e c en h2) hm⟩
        · simp only [Option.ite_none_left_eq_some, Option.bind_eq_some_iff, Option.map_eq_some_iff, Bool.not_eq_true] at h
          obtain ⟨hm, x, h1, y, h2, z, h3, rfl⟩ := h
          exact ⟨de_chn (hu c) (ih.e c en h1) (ih.e c en h2) (ih.e c en h3) hm, db_chn (hu c) (ih.e c en h1) (ih.e c en h2) (ih.e c en h3) hm⟩
        · cases h
      | IfExp cc a b pos =>
        simp only [cE, Option.bind_eq_some_iff, Option.map_eq_some_iff] at h
        obtain ⟨x, h1, y, h2, z, h3, rfl⟩ := h
        exact ⟨de_ite (ih.t c en h1) (ih.e c en h2) (ih.e c en h3), db_ite (ih.t c en h1) (ih.t c en h2) (ih.t c en h3)⟩
      | Subscript a b pos =>
        simp only [cE] at h
        split at h
        · simp only [Option.bind_eq_some_iff, Option.map_eq_some_iff] at h
          obtain ⟨x, h1, y, h2, z, h3, rfl⟩ := h
          exact ⟨de_sl (ih.e c en h1) (ih.o c en h2) (ih.o c en h3), test_of (de_sl (ih.e c en h1) (ih.o c en h2) (ih.o c en h3)) fun _ => rfl⟩
        · cases h
        · rename_i hn1 hn2
          simp only [Option.bind_eq_some_iff, Option.map_eq_some_iff] at h
          obtain ⟨x, h1, y, h2, rfl⟩ := h
          have hp : PlainIx b := fun o i => by
            cases b <;> first | rfl | skip
            rename_i lo hi st p2
            cases st with
            | none => exact absurd rfl (hn1 _ _ _)
            | some st => exact absurd rfl (hn2 _ _ _ _)
          have d := de_ix (pos := pos) (hu c) (ih.e c en h1) (ih.e c en h2) hp
          exact ⟨d, test_of d fun _ => rfl⟩
      | Call f args kws pos =>
        cases kws with
        | cons _ _ => simp [cE] at h
        | nil =>
          simp only [cE] at h
          split at h
          · rename_i x p
            simp only [Option.ite_none_right_eq_some, Bool.and_eq_true] at h
            obtain ⟨⟨hg, hn⟩, h⟩ := h
            obtain ⟨n1, n2, n3⟩ := okN hn
            split at h
            · rename_i j hj
              obtain ⟨l, hl, rfl⟩ := Option.map_eq_some_iff.mp h
              obtain ⟨k, fa, fd, ps, hr, F, hm, hk, hb⟩ := c.fns j x (idx_get hj)
              have d : DE X (.Call (.Name x p) args [] pos) (sCall (G j) (l.a G)) := by
                cases args with
                | nil =>
                  have : l = .nil := by cases n <;> simp [cA] at hl; exact hl.symm
                  subst this
                  exact de_call0 F hr c.gd (en.gl hg) hm hk hb n1
                | cons e es =>
                  have hs : starEach (e :: es) X.env = (false, eval e X.env) :: starEach es X.env := by
                    cases n with
                    | zero => simp [cA] at hl
                    | succ n =>
                      have hl' := hl
                      simp only [cA, Option.bind_eq_some_iff] at hl'
                      obtain ⟨y, h1, _⟩ := hl'
                      exact star_of h1 _ _
                  have hp := args_of hl pos X.env
                  rw [hs] at hp
                  exact de_call F hr c.gd (en.gl hg) hm hk hb (ih.a c en hl) n1 hs (by simpa [backTo] using hp)
              exact ⟨d, test_of d fun _ => rfl⟩
            · split at h
              · rename_i a
                have one : ∀ {b : B1} {y : E}, bltOf x = some b → cE n Γ sc a = some y → DE X (.Call (.Name x p) [a] [] pos) (E.v G (.b1 b y)) ∧ DB X (.Call (.Name x p) [a] [] pos) (sB (E.v G (.b1 b y))) := fun {b y} hb ha => by
                  have d := de_b1 (p := p) (pos := pos) c hb (en.gl hg) hn (ih.e c en ha) (star_of ha _ _)
                  exact ⟨d, test_of d fun _ => rfl⟩
                split at h
                · rename_i hb
                  split at h
                  · rename_i y hy
                    cases h
                    have hx : x = Str.ofString "list" := by
                      unfold bltOf at hb
                      repeat' (split at hb)
                      all_goals first | assumption | (cases hb; done) | (simp at hb; done)
                    subst hx
                    have d := ih.r (p := p) (pos := pos) c en hy (en.gl hg)
                    exact ⟨d, test_of d fun _ => rfl⟩
                  · obtain ⟨y, hy, rfl⟩ := Option.map_eq_some_iff.mp h
                    exact one hb hy
                · rename_i b hb _
                  obtain ⟨y, hy, rfl⟩ := Option.map_eq_some_iff.mp h
                  exact one (by assumption) hy
                · cases h
              · cases h
          · rename_i o m apos
            simp only [Option.ite_none_right_eq_some] at h
            obtain ⟨⟨rfl, hlo, hline⟩, h⟩ := h
            split at h
            · obtain ⟨y, hy, rfl⟩ := Option.map_eq_some_iff.mp h
              have d := de_pop (cpos := pos) (ih.e c en hy) (base_of hlo _ _ _) hline
              exact ⟨d, test_of d fun _ => rfl⟩
            · cases h
          · cases h
      | ListComp elt gens scope pos =>
        simp only [cE] at h
        split at h
        · simp only [Option.ite_none_right_eq_some, Option.bind_eq_some_iff, Option.map_eq_some_iff] at h
          obtain ⟨hb, t, h1, it, h2, cc, h3, ee, h4, rfl⟩ := h
          have d := de_lc (pos := pos) c.calm c.nd (ih.i c en h2).1 (own := ownOf Γ.N scope) (by rw [c.nn]; exact en.blkOk hb) (fun s H C cl fp => (cT_ok c.blk En.blk h1).1) (fun s H C cl fp => ih.c c.blk En.blk h3) (fun s H C cl fp => de_vl (ih.e c.blk En.blk h4)) (ih.i (tg := elt) c en h2).2
          exact ⟨d, test_of d fun _ => rfl⟩
        · cases h
      | DictComp k v gens scope pos =>
        simp only [cE] at h
        split at h
        · simp only [Option.ite_none_right_eq_some, Option.bind_eq_some_iff, Option.map_eq_some_iff] at h
          obtain ⟨hb, t, h1, it, h2, cc, h3, kk, h4, vv, h5, rfl⟩ := h
          have d := de_dc (pos := pos) (by have := hu c; omega) c.calm c.nd (ih.i c en h2).1 (own := ownOf Γ.N scope) (by rw [c.nn]; exact en.blkOk hb) (fun s H C cl fp => (cT_ok c.blk En.blk h1).1) (fun s H C cl fp => ih.c c.blk En.blk h3) (fun s H C cl fp => de_vl (ih.e c.blk En.blk h4)) (fun s H C cl fp => de_vl (ih.e c.blk En.blk h5)) (ih.i (tg := k) c en h2).2
          exact ⟨d, test_of d fun _ => rfl⟩
        · cases h
      | Dict keys values pos =>
        simp only [cE] at h
        split at h
        · split at h
          · cases h
            exact ⟨de_dnew, test_of de_dnew fun _ => rfl⟩
          · cases h
        · simp only [Option.ite_none_right_eq_some, Option.map_eq_some_iff] at h
          obtain ⟨⟨hl, h15⟩, ⟨ks, l⟩, h1, rfl⟩ := h
          obtain ⟨d1, d2⟩ := ih.d (pos := pos) c en h1
          have d := de_disp d1 d2 hl (by simp) h15
          exact ⟨d, test_of d fun _ => rfl⟩
      | _ => simp [cE] at h
    have range_none : ∀ {X : Cx}, Cok X Γ G → X.mg (Str.ofString "range") = none := fun c => c.blt _ (.inr rfl)
    refine ⟨?_, ?_, ?_, ?_, ?_, ?_, ?_, ?_, ?_⟩
    · intro X sc c en e t h; exact (main c en h).1
    · intro X sc c en e t h; exact (main c en h).2
    · intro X sc c en es t h
      cases es with
      | nil => simp only [cA, Option.some.injEq] at h; subst h; exact da_nil
      | cons e es =>
        simp only [cA, Option.bind_eq_some_iff, Option.map_eq_some_iff] at h
        obtain ⟨x, h1, r, h2, rfl⟩ := h
        exact da_cons (de_vl (ih.e c en h1)) (ih.a c en h2) (star_of h1 _ _)
    · intro X sc c en op es t pos h
      match es, h with
      | [], h => simp [cB] at h
      | [e], h =>
        simp only [cB] at h
        exact ⟨de_bop1 (ih.e c en h), dw_one (ih.t c en h)⟩
      | e :: e2 :: es, h =>
        simp only [cB, Option.bind_eq_some_iff, Option.map_eq_some_iff] at h
        obtain ⟨x, h1, y, h2, rfl⟩ := h
        obtain ⟨i1, i2⟩ := ih.b (pos := pos) c en h2
        cases op with
        | And =>
          refine ⟨de_and (ih.e c en h1) i1, ?_⟩
          show DW X _ (sB (sAnd (sB (x.v G)) (y.v G)))
          rw [sB_and]
          exact dw_and (ih.t c en h1) i2
        | Or =>
          refine ⟨de_or (ih.e c en h1) i1, ?_⟩
          show DW X _ (sB (sOr (sB (x.v G)) (y.v G)))
          rw [sB_or]
          exact dw_or (ih.t c en h1) i2
    · intro X sc c en e t h
      cases e with
      | none => simp only [cO, Option.some.injEq] at h; subst h; exact do_none
      | some e =>
        simp only [cO, Option.map_eq_some_iff] at h
        obtain ⟨x, h1, rfl⟩ := h
        exact do_some (ih.e c en h1)
    · intro X sc c en es t h
      match es, h with
      | [], h => simp only [cC, Option.some.injEq] at h; subst h; exact pts_no
      | [e], h =>
        simp only [cC, Option.map_eq_some_iff] at h
        obtain ⟨x, h1, rfl⟩ := h
        exact pts_one (ih.t c en h1)
      | _ :: _ :: _, h => simp [cC] at h
    · intro X sc c en tg e t h
      have plain : ∀ {t : E}, (cE n Γ sc e).map E.it = some t → DI X tg e (t.i G) ∧ ∀ x, foldedSetIterable e X.env x = pure x := fun {t} h => by
        obtain ⟨x, h1, rfl⟩ := Option.map_eq_some_iff.mp h
        exact ⟨di_of (ih.e c en h1), fold_of h1 _⟩
      simp only [cI] at h
      split at h
      · rename_i x p a pos
        split at h
        · rename_i hx
          obtain ⟨rfl, hg⟩ := hx
          obtain ⟨y, h1, rfl⟩ := Option.map_eq_some_iff.mp h
          have s1 := star_of h1 [] X.env
          exact ⟨di_ran1 (en.gl hg) (range_none c) (da_cons (de_vl (ih.e c en h1)) da_nil s1) s1, fun _ => rfl⟩
        · exact plain h
      · rename_i x p a b pos
        split at h
        · rename_i hx
          obtain ⟨rfl, hg⟩ := hx
          simp only [Option.bind_eq_some_iff, Option.map_eq_some_iff] at h
          obtain ⟨y, h1, z, h2, rfl⟩ := h
          have s1 := star_of h1 [b] X.env
          have s2 := star_of h2 [] X.env
          exact ⟨di_ran2 (en.gl hg) (range_none c) (da_cons (de_vl (ih.e c en h1)) (da_cons (de_vl (ih.e c en h2)) da_nil s2) s1) (by rw [s1, s2]; rfl) s2, fun _ => rfl⟩
        · exact plain h
      · exact plain h
    · intro X sc c en e t p pos h hg
      unfold cR at h
      split at h
      · cases h
      · rename_i n' x p2 a pos2 hn
        cases hn
        simp only [Option.ite_none_right_eq_some] at h
        obtain ⟨⟨rfl, hg2⟩, h⟩ := h
        exact de_lrg c.calm hg (c.blt _ (.inl (by decide +kernel))) (en.gl hg2) (range_none c) (ih.e c en h) (star_of h _ _)
      · cases h
    · intro X sc c en ks vs keys t pos h
      match ks, vs, h with
      | [], [], h =>
        simp only [cD, Option.some.injEq, Prod.mk.injEq] at h
        obtain ⟨rfl, rfl⟩ := h
        exact ⟨dps_nil, rfl⟩
      | some k :: ks, v :: vs, h =>
        simp only [cD, Option.bind_eq_some_iff, Option.map_eq_some_iff, Prod.mk.injEq] at h
        obtain ⟨key, h1, x, h2, ⟨ks', l⟩, h3, rfl, rfl⟩ := h
        obtain ⟨d1, d2⟩ := ih.d (pos := pos) c en h3
        have hk : PE X k (tC (kV key)) := by
          unfold keyOf at h1
          split at h1
          · cases h1; exact pe_str
          · cases h1; exact pe_int
          · cases h1
        have hv : ∀ {e : E}, (e = x ∨ e = .shr x) → DV X v (vl (e.v G)) := fun {e} he => by
          rcases he with rfl | rfl
          · exact de_vl (ih.e c en h2)
          · exact de_vl (de_shr (ih.e c en h2))
        refine ⟨dps_cons (fk := sCon .non) hk ?_ d1, by simpa using d2⟩
        cases x <;> first | exact hv (.inl rfl) | exact hv (.inr rfl)
      | none :: _, _, h => simp [cD] at h
      | some _ :: _, [], h => simp [cD] at h
      | [], _ :: _, h => simp [cD] at h
end U

/-! U19: statements. -/
namespace U
open PySem PySem.Spec PyProof.Rows L2
section
variable {P : Program} {w : World} {K : PySem.W.Frag} {σ : List (Option V)} {H : Hp} {Q : VK}
theorem te_frz {f : FE} (t : TE P w K (vv (vl f)) σ H Q) : TE P w K f σ H Q := by
  obtain ⟨L, env, ah, R, r, ah', e1, q⟩ := t
  simp only [vv, vl, Option.map_eq_some_iff, Option.bind_eq_some_iff] at e1
  obtain ⟨⟨d, ah1⟩, ⟨⟨r1, ah2⟩, e2, d2, e3, e4⟩, e5⟩ := e1
  cases e4
  cases e5
  refine ⟨L, env, ah, R, r1, _, e2, fun L' v H' g h => ?_⟩
  obtain ⟨L2, g2, h2⟩ := RW.val g h e3
  exact q L2 v H' g2 h2
theorem te_wrap {Γ : Ga} {G : Nat → FG} {x : Str} {e : E} (t : TE P w K ((wrap Γ x e).v G) σ H Q) : TE P w K (e.v G) σ H Q := by
  unfold wrap at t
  split at t
  · exact te_shr t
  · split at t
    · exact t
    · exact te_frz t
end
section
variable {X : Cx} {sc : Scope} {Γ : Ga} {G : Nat → FG}
theorem de_wrap {e : Expr} {t : E} {x : Str} (h : DE X e (t.v G)) : DE X e ((wrap Γ x t).v G) := weakE h fun _ _ _ q => te_wrap q
theorem sw_plain {e : Expr} (h : isLcE e = false) (t : Option Expr) (l : Nat) (env : Env) : swapsWith e t l env = pure false := by
  cases e <;> first | rfl | (simp [isLcE] at h; done)
theorem sw_cell {elt : Expr} {gs : List Comprehension} {scope : Scope} {pos py : Pos} {y : Str} {l : Nat} {env : Env} (h : env.kindOf y = some .cell) : swapsWith (.ListComp elt gs scope pos) (some (.Name y py)) l env = pure false := by
  show (pure (env.blockKind == .function && env.kindOf y == some .local && py.line == pos.line && !(scope.names.any fun (n, k) => n == y && (k == .local || k == .cell))) : Sem Bool) = pure false
  rw [h]
  have : ((some NameKind.cell : Option NameKind) == some NameKind.local) = false := rfl
  rw [this, Bool.and_false, Bool.false_and, Bool.false_and]
def starB : Expr → Bool
  | .Starred _ _ => true
  | _ => false
def nmB (env : Env) (line : Nat) : Expr → Option Str
  | .Name id pos => if env.kindOf id == some .local && pos.line == line then some id else none
  | _ => none
theorem sw_par {a b : Expr} {x y : Str} {px py pt pt2 : Pos} {kt k2 : Nat} {env : Env} (hb : env.blockKind = .function) (hx : env.kindOf x = some .local) (hy : env.kindOf y = some .local) (hlpy : py.line = px.line) (nxy : x ≠ y) (sa : starB a = false) (sb : starB b = false) (hf : ([a, b].all (foldedForSure 8)) = false) (hc : ([a, b].all (constantsAlone 8)) = false) :
    swappedStores [.Tuple [.Name x px, .Name y py] kt pt] (.Tuple [a, b] k2 pt2) env = pure (some [x, y]) := by
  have e1 : [a, b].any starB = false := by simp [sa, sb]
  have e2 : [Expr.Name x px, Expr.Name y py].filterMap (nmB env px.line) = [x, y] := by simp [nmB, hx, hy, hlpy]
  have e3 : ([x, y] : List Str).eraseDups.length = 2 := by
    have qxy : (y == x) = false := by simpa using fun q : y = x => nxy q.symm
    simp [List.eraseDups_cons, qxy]
  show (if (!((2 : Nat) == 2 || (2 : Nat) == 3) || (2 : Nat) != 2 || env.blockKind != .function) = true then pure none else if ([a, b].any starB) = true then pure none
    else if (([Expr.Name x px, Expr.Name y py].filterMap (nmB env px.line)).length != 2 || ([Expr.Name x px, Expr.Name y py].filterMap (nmB env px.line)).eraseDups.length != ([Expr.Name x px, Expr.Name y py].filterMap (nmB env px.line)).length) = true then pure none
    else if ([a, b].all (foldedForSure 8)) = true then pure none else if ([a, b].all (constantsAlone 8)) = true then (do unsupported "assign.tuple-of-constant-expressions:order-of-the-stores"; pure (some ([Expr.Name x px, Expr.Name y py].filterMap (nmB env px.line))))
    else pure (some ([Expr.Name x px, Expr.Name y py].filterMap (nmB env px.line))) : Sem (Option (List Str))) = _
  rw [hb, e1, e2, e3, hf, hc]
  rfl
theorem sw_par3 {a b c : Expr} {x y z : Str} {px py pz pt pt2 : Pos} {kt k2 : Nat} {env : Env} (hb : env.blockKind = .function) (hx : env.kindOf x = some .local) (hy : env.kindOf y = some .local) (hz : env.kindOf z = some .local) (hlpy : py.line = px.line) (hlpz : pz.line = px.line) (nxy : x ≠ y) (nxz : x ≠ z) (nyz : y ≠ z) (sa : starB a = false) (sb : starB b = false) (sc : starB c = false) (hf : ([a, b, c].all (foldedForSure 8)) = false) (hc : ([a, b, c].all (constantsAlone 8)) = false) :
    swappedStores [.Tuple [.Name x px, .Name y py, .Name z pz] kt pt] (.Tuple [a, b, c] k2 pt2) env = pure (some [x, y, z]) := by
  have e1 : [a, b, c].any starB = false := by simp [sa, sb, sc]
  have e2 : [Expr.Name x px, Expr.Name y py, Expr.Name z pz].filterMap (nmB env px.line) = [x, y, z] := by simp [nmB, hx, hy, hz, hlpy, hlpz]
  have e3 : ([x, y, z] : List Str).eraseDups.length = 3 := by
    have qxy : (y == x) = false := by simpa using fun q : y = x => nxy q.symm
    have qxz : (z == x) = false := by simpa using fun q : z = x => nxz q.symm
    have qyz : (z == y) = false := by simpa using fun q : z = y => nyz q.symm
    simp [List.eraseDups_cons, qxy, qxz, qyz]
  show (if (!((3 : Nat) == 2 || (3 : Nat) == 3) || (3 : Nat) != 3 || env.blockKind != .function) = true then pure none else if ([a, b, c].any starB) = true then pure none
    else if (([Expr.Name x px, Expr.Name y py, Expr.Name z pz].filterMap (nmB env px.line)).length != 3 || ([Expr.Name x px, Expr.Name y py, Expr.Name z pz].filterMap (nmB env px.line)).eraseDups.length != ([Expr.Name x px, Expr.Name y py, Expr.Name z pz].filterMap (nmB env px.line)).length) = true then pure none
    else if ([a, b, c].all (foldedForSure 8)) = true then pure none else if ([a, b, c].all (constantsAlone 8)) = true then (do unsupported "assign.tuple-of-constant-expressions:order-of-the-stores"; pure (some ([Expr.Name x px, Expr.Name y py, Expr.Name z pz].filterMap (nmB env px.line))))
    else pure (some ([Expr.Name x px, Expr.Name y py, Expr.Name z pz].filterMap (nmB env px.line))) : Sem (Option (List Str))) = _
  rw [hb, e1, e2, e3, hf, hc]
  rfl
theorem nostar {n : Nat} {e : Expr} {t : E} (h : cE n Γ sc e = some t) : starB e = false := by
  cases n with
  | zero => simp [cE] at h
  | succ n => cases e <;> first | rfl | simp [cE] at h
end
structure SndS (Γ : Ga) (G : Nat → FG) (n : Nat) : Prop where
  s : ∀ {X : Cx} {sc : Scope}, Cok X Γ G → En X sc → X.env.scope = sc → sc.kind = .function → PassesOwn (model X.prog X.w) X.A X.env X.xe → ∀ {st : Stmt} {t : S}, cS n Γ sc st = some t → DS X st (t.sem G)
  ss : ∀ {X : Cx} {sc : Scope}, Cok X Γ G → En X sc → X.env.scope = sc → sc.kind = .function → PassesOwn (model X.prog X.w) X.A X.env X.xe → ∀ {st : List Stmt} {t : S}, cSs n Γ sc st = some t → DSs X st (t.sem G)
  p : ∀ {X : Cx} {sc : Scope}, Cok X Γ G → En X sc → X.env.scope = sc → sc.kind = .function → ∀ {ts es : List Expr} {pt pt2 pos : Pos} {kt k2 : Nat} {t : S}, cPar n Γ sc ts pt es = some t → DS X (.Assign [.Tuple ts kt pt] (.Tuple es k2 pt2) pos) (t.sem G)
theorem sndS (Γ : Ga) (G : Nat → FG) : ∀ n, SndS Γ G n
  | 0 => by
    refine ⟨?_, ?_, ?_⟩
    · intro X sc c en _ _ _ st t h; simp [cS] at h
    · intro X sc c en _ _ _ st t h; simp [cSs] at h
    · intro X sc c en _ _ ts es pt pt2 pos kt k2 t h; simp [cPar] at h
  | n + 1 => by
    have ih := sndS Γ G n
    have ie := snd Γ G n
    have hu : ∀ {X}, Cok X Γ G → X.A.units + 100 < cLine := fun c => by have := c.hu; omega
    refine ⟨?_, ?_, ?_⟩
    · intro X sc c en hsc hk hp st t h
      cases st with
      | Return e pos =>
        simp only [cS] at h
        split at h
        · cases h; exact ds_retN
        · obtain ⟨x, h1, rfl⟩ := Option.map_eq_some_iff.mp h
          exact ds_ret (ie.e c en h1)
      | If cc a b pos =>
        simp only [cS, Option.bind_eq_some_iff, Option.map_eq_some_iff] at h
        obtain ⟨x, h1, y, h2, z, h3, rfl⟩ := h
        exact ds_if (ie.t c en h1) (ih.ss c en hsc hk hp h2) (ih.ss c en hsc hk hp h3)
      | For tg iter body orelse pos =>
        cases orelse with
        | cons _ _ => simp [cS] at h
        | nil =>
          simp only [cS, Option.bind_eq_some_iff, Option.map_eq_some_iff] at h
          obtain ⟨t, h1, it, h2, b, h3, rfl⟩ := h
          exact ds_for hp c.calm (ie.i c en h2).1 (cT_ok c en h1).1 (ih.ss c en hsc hk hp h3) (ie.i (tg := tg) c en h2).2
      | Expr e pos =>
        simp only [cS] at h
        split at h
        · rename_i o m apos a cpos
          simp only [Option.ite_none_right_eq_some, Option.bind_eq_some_iff] at h
          obtain ⟨⟨hl, ho⟩, x, h1, y, h2, h⟩ := h
          have hb := fun m => base_of ho m X.env (eval o X.env)
          have hs := star_of h2 [] X.env
          split at h
          · rename_i hm; subst hm; cases h
            exact ds_app (ie.e c en h1) (de_vl (ie.e c en h2)) (hb _) hs hl
          · split at h
            · rename_i hm; subst hm; cases h
              exact ds_ext (ie.e c en h1) (de_vl (ie.e c en h2)) (hb _) hs hl
            · split at h
              · rename_i hm; subst hm; cases h
                exact ds_upd (hu c) (ie.e c en h1) (de_vl (ie.e c en h2)) (hb _) hs hl
              · cases h
        · obtain ⟨x, h1, rfl⟩ := Option.map_eq_some_iff.mp h
          exact ds_drop (ie.e c en h1) rfl
        · cases h
      | Assign tgs e pos =>
        simp only [cS] at h
        split at h
        · -- name = value
          rename_i x py
          simp only [Option.ite_none_right_eq_some, Option.bind_eq_some_iff, Option.some.injEq] at h
          obtain ⟨hl, i, hi, y, h1, hsw, rfl⟩ := h
          have hi' : X.N[i]? = some x := by rw [c.nn]; exact idx_get hi
          by_cases hlc : isLcE e = true
          · cases e <;> simp only [isLcE] at hlc <;> try (cases hlc; done)
            · rename_i elt gens scope lpos
              simp only [cSw, Bool.or_eq_true, decide_eq_true_eq, Bool.and_eq_true] at hsw
              rcases hsw with hcell | ⟨⟨hloc, hline⟩, hany⟩
              · exact ds_asg c.nd hi' (en.loc hl) (de_wrap (ie.e c en h1)) (sw_cell (by show X.env.scope.names.lookup x = _; rw [hsc]; exact hcell)) (en.fn x hl)
              · cases n with
                | zero => simp [cE] at h1
                | succ n =>
                  have ie2 := snd Γ G n
                  have h1' := h1
                  simp only [cE] at h1'
                  split at h1'
                  · simp only [Option.ite_none_right_eq_some, Option.bind_eq_some_iff, Option.map_eq_some_iff] at h1'
                    obtain ⟨hb, t, k1, it, k2, cc, k3, ee, k4, rfl⟩ := h1'
                    have hloc' : X.env.scope.names.lookup x = some .local := by rw [hsc]; exact hloc
                    refine ⟨weakS (ps_setLc (own := ownOf Γ.N scope) (wi := TIo X.prog X.w X.K (it.i G)) (g := TGo X.prog X.w X.K t) (tt := TB X.prog X.w X.K (cc.c G)) (te := TV X.prog X.w X.K (vl (ee.v G))) c.calm c.nd hi' hloc' (sw_true (by rw [hsc]; exact hk) hloc' hline (by simpa using hany)) (ie2.i c en k2).1.pi (by rw [c.nn]; exact en.blkOk hb) (fun s H C cl fp => (cT_ok c.blk En.blk k1).1.pg) (fun s H C cl fp => ie2.c c.blk En.blk k3) (fun s H C cl fp => de_vl (ie2.e c.blk En.blk k4)) (ie2.i (tg := elt) c en k2).2) fun Z σ H q => ?_⟩
                    exact te_lc (te_wrap (ts_asg q))
                  · cases h1'
            · simp [cSw] at hsw
            · simp [cSw] at hsw
          · exact ds_asg c.nd hi' (en.loc hl) (de_wrap (ie.e c en h1)) (sw_plain (by simpa using hlc) _ _ _) (en.fn x hl)
        · -- o[i] = value
          rename_i o i spos
          split at h
          · cases h
          · simp only [Option.ite_none_left_eq_some, Option.bind_eq_some_iff, Option.map_eq_some_iff, Bool.not_eq_true] at h
            obtain ⟨hlc, x, h1, y, h2, z, h3, rfl⟩ := h
            exact ds_put (hu c) (ie.e c en h1) (de_vl (ie.e c en h2)) (de_vl (ie.e c en h3)) (sw_plain hlc _ _ _)
        · -- a tuple of targets
          rename_i ts kt pt
          split at h
          · exact ih.p c en hsc hk h
          all_goals first
            | (simp only [Option.bind_eq_some_iff, Option.map_eq_some_iff] at h
               obtain ⟨t, h1, y, h2, rfl⟩ := h
               obtain ⟨d1, s1⟩ := cT_ok c en h1
               exact ds_asgT (de_vl (ie.e c en h2)) d1 rfl rfl (by rw [s1]; rfl))
            | cases h
        · cases h
      | _ => simp [cS] at h
    · intro X sc c en hsc hk hp st t h
      match st, h with
      | [], h => simp only [cSs, Option.some.injEq] at h; subst h; exact dss_nil
      | s :: r, h =>
        simp only [cSs, Option.bind_eq_some_iff, Option.map_eq_some_iff] at h
        obtain ⟨x, h1, y, h2, rfl⟩ := h
        exact dss_cons (ih.s c en hsc hk hp h1) (ih.ss c en hsc hk hp h2)
    · intro X sc c en hsc hk ts es pt pt2 pos kt k2 t h
      have hbk : X.env.blockKind = .function := by
        unfold Env.blockKind
        rw [hsc, hk]
        rfl
      unfold cPar at h
      split at h
      · cases h
      · rename_i hn
        cases hn
        simp only [Option.bind_eq_some_iff, Option.ite_none_right_eq_some, Option.map_eq_some_iff] at h
        obtain ⟨i, hi, j, hj, ⟨hij, hxy, hx, hy, hl, hf, hc⟩, u, h1, v, h2, rfl⟩ := h
        have kx := hsc ▸ hx
        have ky := hsc ▸ hy
        exact ds_par c.calm c.nd (by rw [c.nn]; exact idx_get hi) (by rw [c.nn]; exact idx_get hj) hij kx ky (de_wrap (ie.e c en h1)) (de_wrap (ie.e c en h2)) (star_of h1 _ _) (star_of h2 _ _) (sw_par hbk kx ky hl hxy (nostar h1) (nostar h2) hf hc) rfl
      · rename_i hn
        cases hn
        simp only [Option.bind_eq_some_iff, Option.ite_none_right_eq_some, Option.map_eq_some_iff] at h
        obtain ⟨i, hi, j, hj, l, hl, ⟨⟨n1, n2, n3⟩, ⟨m1, m2, m3⟩, hx, hy, hz, l1, l2, hf, hc⟩, u, h1, v, h2, w, h3, rfl⟩ := h
        have kx := hsc ▸ hx
        have ky := hsc ▸ hy
        have kz := hsc ▸ hz
        exact ds_par3 c.calm c.nd (by rw [c.nn]; exact idx_get hi) (by rw [c.nn]; exact idx_get hj) (by rw [c.nn]; exact idx_get hl) n1 n2 n3 kx ky kz (de_wrap (ie.e c en h1)) (de_wrap (ie.e c en h2)) (de_wrap (ie.e c en h3)) (star_of h1 _ _) (star_of h2 _ _) (star_of h3 _ _) (sw_par3 hbk kx ky kz l1 l2 m1 m2 m3 (nostar h1) (nostar h2) (nostar h3) hf hc) rfl
      · cases h
end U

/-! U20: all defs at once; the law's head. -/
namespace U
open PySem PySem.Spec PyProof.Rows L2
/- what the machine has of a def -/
def FnFact (K : PySem.W.Frag) (x : Str) (st : Stmt) : Prop := ∃ f fd, PySem.W.nsIn K mainGlobals x = some (some (.ref f)) ∧ Fun K x x st f fd
theorem fact_mk {K : PySem.W.Frag} {x : Str} {st : Stmt} {f : Addr} {oc : Value} {od an : Option Addr} {osl : Array (Option Value)} {kV doc pm cdv ct : Value} (a : PySem.W.nsIn K mainGlobals x = some (some (.ref f)))
    (l : K.lookup f = some ⟨oc, od, .func (PySem.W.fnOf x x (defArgs st) (defBody st) (defScope st) .none kV doc pm an cdv ct), osl⟩) (c : PySem.W.codeIn K cdv x = true) (k : PySem.W.keepIn K (.ref f) = true) : FnFact K x st :=
  ⟨f, _, a, fun_mk l c k⟩
structure OkF (K : PySem.W.Frag) (mg : Str → Option Value) (T : List Fd) (fns : List Str) (j : Nat) (x : Str) : Prop where
  ex : ∃ (st : Stmt) (Γ : Ga) (ps : List Str) (body : S) (f : Addr) (fd : FuncData) (n : Nat), Fun K x x st f fd ∧ mg x = some (.ref f) ∧ Binds K fd ps [] ∧ FnScope Γ.N ps (defScope st) ∧ Γ.fns = fns ∧
    cSs n Γ (defScope st) (defBody st) = some body ∧ T[j]? = some ⟨ps.length, Γ.N.length, body⟩
theorem okf_mk {K : PySem.W.Frag} {h : Heap} {mg : Str → Option Value} {T : List Fd} {fns ps : List Str} {j n : Nat} {x : Str} {st : Stmt} {Γ : Ga} {body : S} (KX : K.In h) (hG : h.Ns mainGlobals mg) (ff : FnFact K x st) (S : FnScope Γ.N ps (defScope st)) (hf : Γ.fns = fns)
    (hb : ∀ (kV doc pm : Value) (an : Option Addr) (cdv ct : Value) (us : List Value), us.length = ps.length → bindArgs (PySem.W.fnOf x x (defArgs st) (defBody st) (defScope st) .none kV doc pm an cdv ct) ⟨us, []⟩ = pure (ps.zip us))
    (hc : cSs n Γ (defScope st) (defBody st) = some body) (hT : T[j]? = some ⟨ps.length, Γ.N.length, body⟩) : OkF K mg T fns j x := by
  obtain ⟨f, fd, a, F⟩ := ff
  exact ⟨st, Γ, ps, body, f, fd, n, F, PySem.W.mg_of KX hG a, F.binds hb, S, hf, hc, hT⟩
section
variable {P : Program} {w : World} {K : PySem.W.Frag} {mg : Str → Option Value} {base : Heap} {T : List Fd} {fns : List Str}
theorem fn_step {k j n : Nat} {x : Str} {st : Stmt} {Γ : Ga} {ps : List Str} {body : S} {f : Addr} {fd : FuncData}
    (ih : ∀ j x, fns[j]? = some x → ∃ f fd ps, FnG P w K mg base k f fd ps (spF P w K (callN T k j)) ∧ mg x = some (.ref f) ∧ PySem.W.keepIn K (.ref f) = true ∧ Binds K fd ps [])
    (hblt : ∀ x, (bltOf x).isSome = true ∨ x = Str.ofString "range" → mg x = none) (F : Fun K x x st f fd) (S : FnScope Γ.N ps (defScope st)) (hf : Γ.fns = fns)
    (hc : cSs n Γ (defScope st) (defBody st) = some body) (hT : T[j]? = some ⟨ps.length, Γ.N.length, body⟩) : FnG P w K mg base (k + 1) f fd ps (spF P w K (callN T (k + 1) j)) := by
  have FG := fnG_run (P := P) (w := w) (mg := mg) (base := base) (k := k) (b := body.sem (callN T k)) F S fun cdv A outer s H E hr hg => by
    refine (sndS Γ (callN T k) n).ss ⟨rfl, S.nd, rfl, ?_, guards_deeper (A := A) hg, ?_, hblt⟩ ⟨fun y kk h => ⟨kk, h, .inl rfl⟩, fun _ _ => .inl rfl⟩ rfl S.kind PassesOwn.never hc
    · have := hr.un
      show (A.deeper _).units + 200 < cLine
      omega
    · intro j' x' hj'
      rw [hf] at hj'
      obtain ⟨f', fd', ps', F', m', k', b'⟩ := ih j' x' hj'
      exact ⟨k, f', fd', ps', hr, F', m', k', b'⟩
  have h2 : ∀ {vs H Q E}, spF P w K (callN T (k + 1) j) vs H Q E → vs.length = ps.length ∧ spF P w K (runF Γ.N.length (body.sem (callN T k))) vs H Q E := fun {vs H Q E} h => by
    obtain ⟨L, as, ah, h1, h2, r, ah', e, q⟩ := h
    simp only [callN, hT, Option.ite_none_right_eq_some] at e
    exact ⟨by rw [← h2.length]; exact e.1, L, as, ah, h1, h2, r, ah', e.2, q⟩
  exact ⟨fun vs H Q E h => (h2 h).1, fun A outer s H args us vs Q E hr hg he hbd hv h => FG.run A outer s H args us vs Q E hr hg he hbd hv (h2 h)⟩
theorem fns_ok (hall : ∀ j x, fns[j]? = some x → OkF K mg T fns j x) (hblt : ∀ x, (bltOf x).isSome = true ∨ x = Str.ofString "range" → mg x = none) : ∀ k j x, fns[j]? = some x →
    ∃ f fd ps, FnG P w K mg base k f fd ps (spF P w K (callN T k j)) ∧ mg x = some (.ref f) ∧ PySem.W.keepIn K (.ref f) = true ∧ Binds K fd ps []
  | 0, j, x, hj => by
    obtain ⟨st, Γ, ps, body, f, fd, n, F, hm, hb, _, _, _, hT⟩ := (hall j x hj).ex
    have no : ∀ {vs : List V} {H : Hp} {Q : VK} {E : XK}, spF P w K (callN T 0 j) vs H Q E → False := fun ⟨_, _, _, _, _, _, _, e, _⟩ => nomatch e
    exact ⟨f, fd, ps, ⟨fun vs H Q E h => (no h).elim, fun A outer s H args us vs Q E _ _ _ _ _ h => (no h).elim⟩, hm, F.kp, hb⟩
  | k + 1, j, x, hj => by
    obtain ⟨st, Γ, ps, body, f, fd, n, F, hm, hb, S, hf, hc, hT⟩ := (hall j x hj).ex
    exact ⟨f, fd, ps, fn_step (fns_ok hall hblt k) hblt F S hf hc hT, hm, F.kp, hb⟩
end
/- the law is called -/
theorem law_callG {P : Program} {w : World} {K : PySem.W.Frag} {mg mb : Str → Option Value} {k : Nat} {fa a : Addr} {fd : FuncData} {x : Str} {g : FG} {s₁ : Shared} {vs : List Value} {ns : List Int}
    (KX : K.In s₁.heap) (hns : s₁.heap.Ns mainGlobals mg) (hb : s₁.heap.Ns builtinsNs mb) (hbb : ∀ x : Str, x ≠ "__name__" → mb x = bootBuiltins x) (hlim : s₁.heap.NoLimit) (hg : s₁.gens = #[])
    (ha : s₁.heap.get? a = some { cls := .type "list", data := .seq vs.toArray }) (hi : IntsAre vs ns) (hl : ns.length ≤ sizeLine) (hr : Room k callerA)
    (F : ∀ base : Heap, K.In base → base.Ns mainGlobals mg → FnG P w K mg base k fa fd [x] (spF P w K g)) (hbind : ∀ (s : Shared) (u : Value), BindsTo s fd ⟨[u], []⟩ [(x, u)])
    (hsp : ∃ ah', g [.scr (ns.map D.int)] [] = some (.v (.bl true), ah')) :
    codeAny (model P w) callerA (.call (.ref fa) ⟨[.ref a], []⟩) (fun r s' => r = .ok (.ret (.bool true)) ∧ OldK s₁.heap s'.heap ∧ s'.os = s₁.os ∧ AllBare s'.gens) s₁ := by
  have rv := vals_ints hi
  have lenV := hi.length
  -- whatever is tracked, it is the script at most
  have core : ∀ H : Hp, Only H → SqL K H a (ns.map V.int) → HOk P w H s₁.heap → (∀ b, H b ≠ none → b = a) → (H a ≠ none → K.lookup a = none) →
      codeAny (model P w) callerA (.call (.ref fa) ⟨[.ref a], []⟩) (fun r s' => r = .ok (.ret (.bool true)) ∧ OldK s₁.heap s'.heap ∧ s'.os = s₁.os ∧ AllBare s'.gens) s₁ := by
    intro H hO hS hok hA hK
    have isA : ∀ {b : Addr} {u : HO}, H b = some u → b = a := fun {b u} q => hA b (by rw [q]; simp)
    have noD : ∀ {b : Addr} {o : Obj} {es : Array DictEntry} {ep : Nat}, s₁.heap.get? b = some o → o.data = .dict es ep → H b = none := fun {b o es ep} e d => by
      cases q : H b with
      | none => rfl
      | some u =>
        obtain rfl := isA q
        rw [ha] at e
        cases e
        cases d
    have nsK : ∀ {b : Addr} {m : Str → Option Value}, s₁.heap.Ns b m → (hidT s₁.heap H).Ns b m := fun {b m} ⟨o, es, ep, e, d, r⟩ => ⟨o, es, ep, hidT_get e (noD e d), d, r⟩
    have hKb : K.In (hidT s₁.heap H) := fun b o e => hidT_get (KX b o e) (by
      cases q : H b with
      | none => rfl
      | some u =>
        obtain rfl := isA q
        rw [hK (by rw [q]; simp)] at e
        cases e)
    have hM : Mod K mg (hidT s₁.heap H) := ⟨hKb, nsK hns, ⟨mb, nsK hb, hbb⟩, hlim.imp fun mc h => ⟨nsK h.1, h.2⟩⟩
    have e0 : Env0 P w K mg (hidT s₁.heap H) callerA [] s₁ H := ⟨rfl, hM, fun b o e => of_hidT e, Nat.le_of_eq (hidT_size _ _), trivial, fun b hb => by simp [frs] at hb, hok, .of_eq hg⟩
    have intsR : ∀ zs : List Int, RDs P w K ⟨H, fun _ => 0, 0, fun _ => 0⟩ (zs.map D.int) (zs.map V.int) := fun zs => by
      induction zs with
      | nil => exact RDs.nil
      | cons z zs ih => exact RDs.cons (by rw [RD]) ih
    have start0 : spF P w K g [.ref a] H (fun v _ => v = .bl true) fun _ _ _ => False := by
      obtain ⟨ah', e⟩ := hsp
      refine ⟨⟨H, fun _ => 0, 0, fun _ => 0⟩, [.scr (ns.map D.int)], [], ⟨rfl, fun l d h => ?_, Same.refl _, fun l l' d d' h => ?_⟩, RDs.one ?_, .v (.bl true), ah', e, fun L' v H' _ _ rt => ?_⟩
      · cases l <;> simp [at'] at h
      · cases l <;> simp [at'] at h
      · rw [RD]
        exact ⟨a, ns.map V.int, rfl, hS, intsR ns⟩
      · have rt : RD P w K L' (.bl true) v := rt
        rw [RD] at rt
        exact rt
    refine codeAny_mono ((F _ hKb (nsK hns)).run callerA [] s₁ H ⟨[.ref a], []⟩ [.ref a] [.ref a] _ _ hr rfl e0 (hbind s₁ (.ref a)) (.cons rfl .nil) start0) fun r s' h => ?_
    match r, h with
    | .ok (.ret u), ⟨v, H', os, bare, un, hok', r', q⟩ =>
      have q : v = .bl true := q
      subst q
      obtain rfl : u = Value.bool true := r'
      refine ⟨rfl, OldK.of_keep fun b o e => ?_, os, bare⟩
      cases q : H b with
      | none => exact un.keep b o e q (by simp [frs]) (by simp)
      | some u =>
        rcases hO b with z | ⟨ob, xs, z⟩
        · rw [q] at z
          cases z
        · have e1 := (hok b _ z).1
          rw [e] at e1
          cases e1
          exact (hok' b _ (un.frzs b _ _ z)).1
    | .ok .next, h => exact h.elim
    | .ok .brk, h => exact h.elim
    | .ok .cont, h => exact h.elim
    | .error e, h => exact h.elim
  cases hk : K.lookup a with
  | some o =>
    have e := KX a o hk
    rw [ha] at e
    cases e
    exact core (fun _ => none) (fun _ => .inl rfl) (.inr ⟨_, vs.toArray, _, hk, rfl, rfl, rfl, by rw [List.size_toArray, lenV]; exact hl, by simpa using rv⟩) (fun b u z => nomatch z) (fun b z => absurd rfl z) fun z => absurd rfl z
  | none =>
    have atA : ∀ {b : Addr} {u : HO}, (if b = a then some (HO.frz { cls := .type "list", data := .seq vs.toArray } (.lst (ns.map V.int))) else none) = some u → b = a ∧ u = .frz { cls := .type "list", data := .seq vs.toArray } (.lst (ns.map V.int)) := fun {b u} z => by
      split at z
      · rename_i e
        cases z
        exact ⟨e, rfl⟩
      · cases z
    refine core (fun b => if b = a then some (.frz { cls := .type "list", data := .seq vs.toArray } (.lst (ns.map V.int))) else none) (fun b => ?_) (.inl (.inr ⟨_, if_pos rfl⟩)) (fun b u z => ?_) (fun b z => ?_) fun _ => hk
    · by_cases e : b = a
      · exact .inr ⟨_, _, if_pos e⟩
      · exact .inl (if_neg e)
    · obtain ⟨rfl, rfl⟩ := atA z
      exact ⟨ha, by rw [List.length_map]; exact hl, vs, _, rv, ha⟩
    · exact Classical.byContradiction fun n => z (if_neg n)
theorem walk_U {l : PySem.W.OpenLaw} {n k : Nat} {q : Program} {loose : List Str} {XP : (Str → Option Value) → Heap → Prop} {YP : World → Heap → Prop} {d : DefRec} {K : Params → PySem.W.Frag} {g : FG} {x : Str}
    (hn : l.most = some n) (hn2 : n ≤ sizeLine) (hdf : d.params.defaults = []) (hr : Room k callerA) (hY : ∀ (w : World) (h : Heap), YP w h → (K w.params).In h)
    (F : ∀ (w : World) (mg : Str → Option Value) (fa : Addr) (h : Heap), (K w.params).In h → h.Ns mainGlobals mg → mg d.name = some (.ref fa) →
      ∃ fd : FuncData, (∀ (s : Shared) (u : Value), BindsTo s fd ⟨[u], []⟩ [(x, u)]) ∧ ∀ base : Heap, (K w.params).In base → base.Ns mainGlobals mg → FnG l.prog w (K w.params) mg base k fa fd [x] (spF l.prog w (K w.params) g))
    (hlaw : ∀ ns : List Int, ns.length ≤ n → ∃ ah', g [.scr (ns.map D.int)] [] = some (.v (.bl true), ah')) :
    PySem.W.WalkO q loose XP YP l.row.toRowW d [] (fun f vs => PySem.call f vs) := by
  refine Att.attach_call hn hdf fun w s₀ s₁ mg mb fa o pm cd doc a vs ns G Y ho hd hcd hmg hobj hints hlen hg => ?_
  obtain ⟨fd, hb, hF⟩ := F w mg fa _ (hY w _ Y) G.T.g hmg
  exact law_callG (hY w _ Y) G.T.g G.T.b G.T.builtins G.T.nolimit hg hobj hints (Nat.le_trans hlen hn2) hr hF hb (hlaw ns hlen)
end U
namespace U
open PySem PySem.Spec PyProof.Rows L2
theorem blt_mk {K : PySem.W.Frag} {mg : Str → Option Value} (m : ∀ x : Str, PySem.W.nsIn K mainGlobals x = some none → mg x = none) (z0 : PySem.W.nsIn K mainGlobals "len" = some none) (z1 : PySem.W.nsIn K mainGlobals "abs" = some none) (z2 : PySem.W.nsIn K mainGlobals "int" = some none)
    (z3 : PySem.W.nsIn K mainGlobals "all" = some none) (z4 : PySem.W.nsIn K mainGlobals "any" = some none) (z5 : PySem.W.nsIn K mainGlobals "sum" = some none) (z6 : PySem.W.nsIn K mainGlobals "tuple" = some none) (z7 : PySem.W.nsIn K mainGlobals "list" = some none)
    (z8 : PySem.W.nsIn K mainGlobals "sorted" = some none) (z9 : PySem.W.nsIn K mainGlobals "dict" = some none) (z10 : PySem.W.nsIn K mainGlobals "repr" = some none) (z11 : PySem.W.nsIn K mainGlobals "range" = some none) : ∀ x, (bltOf x).isSome = true ∨ x = Str.ofString "range" → mg x = none := by
  rintro x (h | rfl)
  · unfold bltOf at h
    repeat' (split at h)
    all_goals first
      | (rename_i e; subst e; exact m _ (by assumption))
      | (simp at h; done)
  · exact m _ z11
theorem law_mk {P : Program} {w : World} {K : PySem.W.Frag} {h : Heap} {mg : Str → Option Value} {T : List Fd} {fns : List Str} {k j n : Nat} {x p : Str} {fa : Addr} {st : Stmt} {Γ : Ga} {body : S} (KX : K.In h) (hG : h.Ns mainGlobals mg) (hall : ∀ j x, fns[j]? = some x → OkF K mg T fns j x) (hblt : ∀ x, (bltOf x).isSome = true ∨ x = Str.ofString "range" → mg x = none)
    (hfa : mg x = some (.ref fa)) (ff : FnFact K x st) (S : FnScope Γ.N [p] (defScope st)) (hf : Γ.fns = fns)
    (hb : ∀ (kV doc pm : Value) (an : Option Addr) (cdv ct : Value) (us : List Value), us.length = [p].length → bindArgs (PySem.W.fnOf x x (defArgs st) (defBody st) (defScope st) .none kV doc pm an cdv ct) ⟨us, []⟩ = pure ([p].zip us))
    (hc : cSs n Γ (defScope st) (defBody st) = some body) (hT : T[j]? = some ⟨[p].length, Γ.N.length, body⟩) :
    ∃ fd : FuncData, (∀ (s : Shared) (u : Value), BindsTo s fd ⟨[u], []⟩ [(p, u)]) ∧ ∀ base : Heap, K.In base → base.Ns mainGlobals mg → FnG P w K mg base (k + 1) fa fd [p] (spF P w K (callN T (k + 1) j)) := by
  obtain ⟨f, fd, a, F⟩ := ff
  have e := hfa.symm.trans (PySem.W.mg_of KX hG a)
  cases e
  refine ⟨fd, fun s u => ?_, fun base _ _ => fn_step (fns_ok hall hblt k) hblt F S hf hc hT⟩
  obtain ⟨oc, od, kV, doc, pm, an, cdv, ct, osl, rfl, _, _⟩ := F.ex
  exact .of_eq (hb kV doc pm an cdv ct [u] rfl)
end U

/-! V1: reckoning with the small language. -/
namespace U
open PySem PySem.Spec PyProof.Rows L2
theorem callN_at {T : List Fd} {k j : Nat} {fd : Fd} {args : List D} {ah : AH} (h : T[j]? = some fd) (ha : args.length = fd.ar) : callN T (k + 1) j args ah = runF fd.n (fd.body.sem (callN T k)) args ah := by
  simp only [callN, h, ha, if_true]
/- tuples of whole numbers -/
abbrev tI (xs : List Int) : D := .tup (xs.map .int)
theorem flats_int : ∀ (n : Nat) (xs : List Int), flats n (xs.map .int) = true
  | _, [] => by simp [flats]
  | n, x :: xs => by rw [List.map_cons, flats, flats_int n xs]; simp [flat]
theorem flats_map {α : Type} (f : α → D) (n : Nat) (h : ∀ a, flat n (f a) = true) : ∀ xs : List α, flats n (xs.map f) = true
  | [] => by simp [flats]
  | x :: xs => by rw [List.map_cons, flats, h, flats_map f n h xs]; rfl
theorem eqvAll_map {α : Type} [DecidableEq α] (f : α → D) (h : ∀ a b, PyData.eqv (toP (f a)) (toP (f b)) = decide (a = b)) : ∀ xs ys : List α, PyData.eqvAll (toPs (xs.map f)) (toPs (ys.map f)) = decide (xs = ys)
  | [], [] => by simp [toPs, PyData.eqvAll]
  | [], y :: ys => by simp [toPs, PyData.eqvAll]
  | x :: xs, [] => by simp [toPs, PyData.eqvAll]
  | x :: xs, y :: ys => by
    rw [List.map_cons, List.map_cons, toPs, toPs, PyData.eqvAll, h, eqvAll_map f h xs ys]
    by_cases e : x = y <;> by_cases e' : xs = ys <;> simp [e, e']
theorem eqv_int (a b : Int) : PyData.eqv (toP (.int a)) (toP (.int b)) = decide (a = b) := by
  simp only [toP, PyData.eqv]
  by_cases e : a = b <;> simp [e]
theorem eqv_tI (xs ys : List Int) : PyData.eqv (toP (tI xs)) (toP (tI ys)) = decide (xs = ys) := by
  rw [toP, toP, PyData.eqv, eqvAll_map _ eqv_int]
theorem flat_tI (n : Nat) (xs : List Int) : flat (n + 1) (tI xs) = true := by rw [flat]; exact flats_int n xs
theorem eqD_tI (xs ys : List Int) : eqD (tI xs) (tI ys) = some (decide (xs = ys)) := by
  unfold eqD
  rw [flat_tI, flat_tI, eqv_tI]
  rfl
theorem eqD_tI0 (xs : List Int) : eqD (tI xs) (.tup []) = some (decide (xs = [])) := eqD_tI xs []
theorem eqD_int (a b : Int) : eqD (.int a) (.int b) = some (decide (a = b)) := by
  unfold eqD
  rw [eqv_int]
  rfl
theorem eqD_str (a b : Str) : eqD (.str a) (.str b) = some (decide (a = b)) := by
  unfold eqD
  simp only [toP, PyData.eqv, flat]
  by_cases e : a = b <;> simp [e]
theorem eqD_lst0 (xs : List D) (h : flats 59 xs = true) : eqD (.lst xs) (.lst []) = some xs.isEmpty := by
  unfold eqD
  rw [show flat 60 (.lst xs) = flats 59 xs from rfl, h, show flat 60 (.lst []) = true from rfl, toP, toP, PyData.eqv, toPs]
  cases xs <;> simp [toPs, PyData.eqvAll]
theorem eqD_tup0 (xs : List D) (h : flats 59 xs = true) : eqD (.tup xs) (.tup []) = some xs.isEmpty := by
  unfold eqD
  rw [show flat 60 (.tup xs) = flats 59 xs from rfl, h, show flat 60 (.tup []) = true from rfl, toP, toP, PyData.eqv, toPs]
  cases xs <;> simp [toPs, PyData.eqvAll]
theorem any_eqv (x : Int) (ys : List Int) : ((ys.map D.int).any fun y => PyData.eqv (toP y) (toP (.int x))) = decide (x ∈ ys) := by
  induction ys with
  | nil => simp
  | cons y ys ih =>
    rw [List.map_cons, List.any_cons, ih, eqv_int]
    by_cases e : y = x
    · subst e; simp
    · have : x ≠ y := fun z => e z.symm
      simp [e, this]
theorem inD_tI (x : Int) (ys : List Int) : inD (.int x) (tI ys) = some (decide (x ∈ ys)) := by
  unfold inD
  simp only [flats_int, flat, Bool.and_self, if_true, any_eqv]
theorem inD_lI (x : Int) (ys : List Int) : inD (.int x) (.lst (ys.map .int)) = some (decide (x ∈ ys)) := by
  unfold inD
  simp only [flats_int, flat, Bool.and_self, if_true, any_eqv]
theorem bools_map {α : Type} (p : α → Bool) : ∀ xs : List α, bools (xs.map fun x => D.bl (p x)) = some (xs.map p)
  | [] => rfl
  | x :: xs => by rw [List.map_cons, bools, bools_map p xs]; rfl
section
variable {env : Ev} {ah : AH}
theorem rr_tup {xs : List D} : Rw.rd env ah (.v (.tup xs)) = some (.tup xs) := rfl
theorem rr_lst {xs : List D} : Rw.rd env ah (.v (.lst xs)) = some (.lst xs) := rfl
theorem rr_scr {xs : List D} : Rw.rd env ah (.v (.scr xs)) = some (.scr xs) := rfl
theorem rr_dct {xs : List (D × D)} : Rw.rd env ah (.v (.dct xs)) = some (.dct xs) := rfl
theorem rr_int {i : Int} : Rw.rd env ah (.v (.int i)) = some (.int i) := rfl
theorem rr_str {i : Str} : Rw.rd env ah (.v (.str i)) = some (.str i) := rfl
theorem rr_bl {i : Bool} : Rw.rd env ah (.v (.bl i)) = some (.bl i) := rfl
theorem rr_non : Rw.rd env ah (.v .non) = some .non := rfl
theorem rr_ref {n : Nat} : Rw.rd env ah (.v (.ref n)) = ah[n]? := rfl
theorem rr_f {d : D} : Rw.rd env ah (.f d) = some d := rfl
theorem rr_o {i : Nat} : Rw.rd env ah (.o i) = match env[i]? with | some (Sl.ow d) => some d | _ => none := rfl
end
/-! comprehensions and loops over what is typed -/
section
variable {α : Type} (enc : α → D)
theorem lcGo_typed {t : Tg} {c : FB} {e : FV} {env0 : Ev} {ah : AH} (p : α → Bool) (g : α → D) : ∀ {xs : List α}, (∀ x ∈ xs, ∃ env, bindT t (enc x) env0 = some env ∧ c env ah = some (p x, ah) ∧ (p x = true → e env ah = some (g x, ah))) →
    lcGo t c e env0 (xs.map enc) ah = some ((xs.filter p).map g, ah)
  | [], _ => rfl
  | x :: xs, h => by
    obtain ⟨env, h1, h2, h3⟩ := h x (List.mem_cons_self ..)
    have ih := lcGo_typed p g (xs := xs) fun y hy => h y (List.mem_cons_of_mem _ hy)
    rw [List.map_cons, lcGo, h1, Option.bind_some, h2, Option.bind_some]
    cases hp : p x with
    | true =>
      simp only [if_true, h3 hp, Option.bind_some, ih, Option.map_some, List.filter_cons, hp, List.map_cons]
    | false =>
      simp only [Bool.false_eq_true, if_false, ih, List.filter_cons, hp]
theorem ev_lc {G : Nat → FG} {t : Tg} {vs : List Nat} {w c e : E} {env : Ev} {ah : AH} {gu : Gu} (p : α → Bool) (g : α → D) {xs : List α} (hi : w.i G env ah = some ((xs.map enc, gu), ah)) (hv : (tgIn t vs && noOw env vs && decide (xs.length ≤ big)) = true)
    (h : ∀ x ∈ xs, ∃ env', bindT t (enc x) (wipeE env vs) = some env' ∧ c.c G env' ah = some (p x, ah) ∧ (p x = true → vl (e.v G) env' ah = some (g x, ah))) :
    (E.lc t vs w c e).v G env ah = some (.f (.lst ((xs.filter p).map g)), ah) := by
  rw [E.v, sLc, hi, Option.bind_some]
  have hv' : (tgIn t vs && noOw env vs && decide ((xs.map enc).length ≤ big)) = true := by rw [List.length_map]; exact hv
  simp only [hv', if_true, lcGo_typed enc p g h, Option.map_some]
/- a loop that may find -/
theorem for_find {G : Type} {t : Tg} {f : FS} {ah : AH} (J : Ev → Prop) (find : α → Option Rw) : ∀ {xs : List α} {env : Ev}, J env →
    (∀ x ∈ xs, ∀ env, J env → ∃ env1, bindT t (enc x) env = some env1 ∧ (match find x with | some r => f env1 ah = some (.rt r ah) | none => ∃ env2, f env1 ah = some (.nx env2 ah) ∧ J env2)) →
    (match xs.findSome? find with | some r => forGo t f (xs.map enc) env ah = some (.rt r ah) | none => ∃ env', forGo t f (xs.map enc) env ah = some (.nx env' ah) ∧ J env')
  | [], env, hj, _ => ⟨env, rfl, hj⟩
  | x :: xs, env, hj, h => by
    obtain ⟨env1, h1, h2⟩ := h x (List.mem_cons_self ..) env hj
    rw [List.findSome?_cons]
    cases hf : find x with
    | some r =>
      rw [hf] at h2
      simp only [List.map_cons, forGo, h1, Option.bind_some, h2]
    | none =>
      rw [hf] at h2
      obtain ⟨env2, h2, hj2⟩ := h2
      have ih := for_find (G := G) J find (xs := xs) hj2 fun y hy => h y (List.mem_cons_of_mem _ hy)
      simp only [List.map_cons, forGo, h1, Option.bind_some, h2]
      exact ih
/- a loop that goes on to its end, with what it keeps -/
theorem for_inv {t : Tg} {f : FS} (J : List α → Ev → AH → Prop) : ∀ {xs done : List α} {env : Ev} {ah : AH}, J done env ah →
    (∀ x ∈ xs, ∀ done env ah, J done env ah → ∃ env1, bindT t (enc x) env = some env1 ∧ ∃ env2 ah2, f env1 ah = some (.nx env2 ah2) ∧ J (done ++ [x]) env2 ah2) →
    ∃ env' ah', forGo t f (xs.map enc) env ah = some (.nx env' ah') ∧ J (done ++ xs) env' ah'
  | [], done, env, ah, hj, _ => ⟨env, ah, rfl, by rw [List.append_nil]; exact hj⟩
  | x :: xs, done, env, ah, hj, h => by
    obtain ⟨env1, h1, env2, ah2, h2, hj2⟩ := h x (List.mem_cons_self ..) done env ah hj
    obtain ⟨env', ah', h3, h4⟩ := for_inv (f := f) (t := t) J (xs := xs) hj2 fun y hy => h y (List.mem_cons_of_mem _ hy)
    refine ⟨env', ah', ?_, by rw [List.append_assoc] at h4; exact h4⟩
    simp only [List.map_cons, forGo, h1, Option.bind_some, h2]
    exact h3
end
end U

/-! V2: dicts whose keys are tuples of whole numbers. -/
namespace U
open PySem PySem.Spec PyProof.Rows L2
theorem nkeys_int : ∀ xs : List Int, nkeys (xs.map .int) = some (xs.map .num)
  | [] => by simp [nkeys]
  | x :: xs => by rw [List.map_cons, nkeys, nkeys_int xs]; simp [nkey]
theorem depth_num : ∀ xs : List Int, NestedKey.depthAll (xs.map .num) = 0
  | [] => by simp [NestedKey.depthAll]
  | x :: xs => by rw [List.map_cons, NestedKey.depthAll, depth_num xs]; simp [NestedKey.depth]
theorem kk_tI (xs : List Int) : kk (tI xs) = some (.n (.tup (xs.map .num))) := by
  unfold kk
  simp only [nkey, nkeys_int, Option.map_some, NestedKey.depth, depth_num]
  rfl
theorem num_inj : ∀ {xs ys : List Int}, xs.map NestedKey.num = ys.map NestedKey.num → xs = ys
  | [], [], _ => rfl
  | [], _ :: _, h => by simp at h
  | _ :: _, [], h => by simp at h
  | x :: xs, y :: ys, h => by
    simp only [List.map_cons, List.cons.injEq, NestedKey.num.injEq] at h
    rw [h.1, num_inj h.2]
theorem kk_eq (xs ys : List Int) : decide (kk (tI xs) = some (.n (.tup (ys.map .num)))) = decide (xs = ys) := by
  rw [kk_tI]
  by_cases h : xs = ys
  · simp [h]
  · simp only [Option.some.injEq, KK.n.injEq, NestedKey.tup.injEq, h, decide_false, decide_eq_false_iff_not]
    exact fun z => h (num_inj z)
/- entries by their keys -/
def kvs {β : Type} (f : β → D) (L : List (List Int × β)) : List (D × D) := L.map fun p => (tI p.1, f p.2)
theorem sameKind_kvs {β : Type} (f : β → D) (L : List (List Int × β)) (k : NestedKey) : sameKind (kvs f L) (.n k) = true := by
  unfold sameKind kvs
  rw [List.all_map, List.all_eq_true]
  intro p hp
  simp only [Function.comp, kk_tI]
  rfl
theorem isN_tI (xs : List Int) : isN (tI xs) = true := by unfold isN; rw [kk_tI]
def putL {β : Type} (L : List (List Int × β)) (k : List Int) (v : β) : List (List Int × β) := if k ∈ L.map (·.1) then L.map fun p => if p.1 = k then (p.1, v) else p else L ++ [(k, v)]
theorem dput_kvs {β : Type} (f : β → D) (L : List (List Int × β)) (k : List Int) (v : β) (hl : L.length < big) : dput (kvs f L) (tI k) (f v) = some (kvs f (putL L k v)) := by
  unfold dput
  rw [kk_tI]
  have h1 : (sameKind (kvs f L) (.n (.tup (k.map .num))) && decide ((kvs f L).length < big)) = true := by
    rw [sameKind_kvs, Bool.true_and, decide_eq_true_eq]
    unfold kvs
    rw [List.length_map]
    exact hl
  simp only [h1, if_true]
  congr 1
  unfold putD putL
  have h2 : ((kvs f L).any fun p => decide (kk p.1 = some (.n (.tup (k.map .num))))) = decide (k ∈ L.map (·.1)) := by
    unfold kvs
    rw [List.any_map]
    have hf : ((fun p : D × D => decide (kk p.1 = some (.n (.tup (k.map .num))))) ∘ fun p : List Int × β => (tI p.1, f p.2)) = fun p => decide (p.1 = k) := funext fun p => kk_eq p.1 k
    rw [hf]
    clear hf
    induction L with
    | nil => simp
    | cons p L ih =>
      have ih := ih (by simp at hl; omega) (by rw [sameKind_kvs, Bool.true_and, decide_eq_true_eq]; unfold kvs; rw [List.length_map]; simp at hl; omega)
      rw [List.any_cons, ih]
      by_cases e : p.1 = k
      · simp [e]
      · have : ¬ k = p.1 := fun z => e z.symm
        simp [e, this]
  rw [h2]
  by_cases h : k ∈ L.map (·.1)
  · rw [if_pos (by simpa using h), if_pos h]
    unfold kvs
    rw [List.map_map, List.map_map]
    refine List.map_congr_left fun p _ => ?_
    have := kk_eq p.1 k
    by_cases e : p.1 = k
    · simp only [e, decide_true, decide_eq_true_eq] at this
      simp [Function.comp, e, this]
    · simp only [e, decide_false, decide_eq_false_iff_not] at this
      simp [Function.comp, e, this]
  · rw [if_neg (by simpa using h), if_neg h]
    unfold kvs
    rw [List.map_append]
    rfl
theorem dfind_kvs {β : Type} (f : β → D) (L : List (List Int × β)) (k : List Int) : dfind (kvs f L) (tI k) = some ((L.find? fun p => decide (p.1 = k)).map fun p => f p.2) := by
  unfold dfind
  rw [kk_tI]
  simp only [sameKind_kvs, if_true]
  congr 1
  unfold kvs
  rw [List.find?_map]
  have : ((fun p => decide (kk p.1 = some (.n (.tup (k.map .num))))) ∘ fun p : List Int × β => (tI p.1, f p.2)) = fun p => decide (p.1 = k) := by
    funext p
    exact kk_eq p.1 k
  rw [this, Option.map_map]
  rfl
/- pairs that are unlike -/
theorem putL_new {β : Type} {L : List (List Int × β)} {k : List Int} {v : β} (h : k ∉ L.map (·.1)) : putL L k v = L ++ [(k, v)] := if_neg h
theorem dputs_kvs {β : Type} (f : β → D) : ∀ (M L : List (List Int × β)), ((L ++ M).map (·.1)).Nodup → L.length + M.length < big → dputs (kvs f L) (M.map fun p => .tup [tI p.1, f p.2]) = some (kvs f (L ++ M))
  | [], L, _, _ => by rw [List.append_nil]; rfl
  | p :: M, L, h, hl => by
    have hn : p.1 ∉ L.map (·.1) := by
      rw [List.map_append, List.nodup_append] at h
      exact fun z => h.2.2 p.1 z p.1 (by simp) rfl
    simp only [List.map_cons, dputs, isN_tI, if_true]
    rw [dput_kvs f L p.1 p.2 (by simp at hl; omega), Option.bind_some, putL_new hn]
    have := dputs_kvs f M (L ++ [(p.1, p.2)]) (by rw [List.append_assoc]; exact h) (by simp at hl ⊢; omega)
    rw [this, List.append_assoc]
    rfl
/- sets: every value is True -/
abbrev kS (L : List (List Int)) : List (D × D) := L.map fun x => (tI x, .bl true)
theorem kS_kvs (L : List (List Int)) : kS L = kvs (fun _ : Unit => D.bl true) (L.map fun x => (x, ())) := by
  unfold kvs
  rw [List.map_map]
  rfl
def addL (L : List (List Int)) (x : List Int) : List (List Int) := if x ∈ L then L else L ++ [x]
theorem dput_kS (L : List (List Int)) (x : List Int) (hl : L.length < big) : dput (kS L) (tI x) (.bl true) = some (kS (addL L x)) := by
  rw [kS_kvs, dput_kvs (fun _ : Unit => D.bl true) _ x () (by rw [List.length_map]; exact hl), kS_kvs]
  congr 2
  unfold putL addL
  have e : (L.map fun x => (x, ())).map (·.1) = L := by rw [List.map_map]; exact List.map_id' L
  rw [e]
  by_cases h : x ∈ L
  · rw [if_pos h, if_pos h, List.map_map]
    refine List.map_congr_left fun y _ => ?_
    simp only [Function.comp]
    split <;> rfl
  · rw [if_neg h, if_neg h, List.map_append]
    rfl
theorem addL_mem {L : List (List Int)} {x y : List Int} : y ∈ addL L x ↔ y ∈ L ∨ y = x := by
  unfold addL
  split
  · exact ⟨.inl, fun h => h.elim id fun e => by rw [e]; assumption⟩
  · simp
theorem addL_nodup {L : List (List Int)} {x : List Int} (h : L.Nodup) : (addL L x).Nodup := by
  unfold addL
  split
  · exact h
  · rename_i hx
    rw [List.nodup_append]
    exact ⟨h, by simp, fun a ha b hb => by simp at hb; subst hb; exact fun e => hx (e ▸ ha)⟩
theorem addL_len {L : List (List Int)} {x : List Int} : (addL L x).length ≤ L.length + 1 := by
  unfold addL
  split
  · omega
  · simp
theorem dputsK_kS : ∀ (M L : List (List Int)), L.length + M.length < big → dputsK (kS L) (kS M) = some (kS (M.foldl addL L))
  | [], L, _ => rfl
  | x :: M, L, h => by
    have hl : L.length < big := by simp at h; omega
    simp only [List.map_cons, dputsK, isN_tI, if_true]
    rw [dput_kS L x hl, Option.bind_some, dputsK_kS M (addL L x) (by have := @addL_len L x; simp at h; omega)]
    rfl
theorem foldl_mem {y : List Int} : ∀ {M L : List (List Int)}, y ∈ M.foldl addL L ↔ y ∈ L ∨ y ∈ M
  | [], L => by simp
  | x :: M, L => by
    rw [List.foldl_cons, foldl_mem, addL_mem]
    simp [or_assoc]
theorem foldl_nodup : ∀ {M L : List (List Int)}, L.Nodup → (M.foldl addL L).Nodup
  | [], L, h => h
  | x :: M, L, h => by
    rw [List.foldl_cons]
    exact foldl_nodup (M := M) (L := addL L x) (addL_nodup h)
theorem foldl_len : ∀ {M L : List (List Int)}, (M.foldl addL L).length ≤ L.length + M.length
  | [], L => by simp
  | x :: M, L => by
    have h1 := @foldl_len M (addL L x)
    have h2 := @addL_len L x
    rw [List.foldl_cons, List.length_cons]
    omega
theorem keys_kS (L : List (List Int)) : (kS L).map (·.1) = L.map tI := by rw [List.map_map]; rfl
theorem sameKind_kS (L : List (List Int)) (k : NestedKey) : sameKind (kS L) (.n k) = true := by rw [kS_kvs]; exact sameKind_kvs _ _ _
/- the rows that go upwards in 0 .. 5, and that no two of them hash alike -/
def allRows : List (List Int) := [0, 1, 2, 3, 4, 5].foldr (fun (x : Int) (acc : List (List Int)) => acc.map (x :: ·) ++ acc) [[]]
def hRow (x : List Int) : Option Int := kHash (tI x)
theorem rows_apart : (allRows.map hRow).Nodup ∧ (allRows.all fun x => (hRow x).isSome) = true := by decide +kernel
theorem apart_kS {L : List (List Int)} (h : L.Nodup) (hs : ∀ x ∈ L, x ∈ allRows) : apart (kS L) = true := by
  have inj : ∀ x ∈ allRows, ∀ y ∈ allRows, hRow x = hRow y → x = y := by
    have := rows_apart.1
    generalize allRows = A at this
    induction A with
    | nil => simp
    | cons a A ih =>
      rw [List.map_cons, List.nodup_cons] at this
      intro x hx y hy e
      rcases List.mem_cons.mp hx with ex | hx'
      · rcases List.mem_cons.mp hy with ey | hy'
        · rw [ex, ey]
        · exact absurd (List.mem_map.mpr ⟨y, hy', by rw [← ex]; exact e.symm⟩) this.1
      · rcases List.mem_cons.mp hy with ey | hy'
        · exact absurd (List.mem_map.mpr ⟨x, hx', by rw [← ey]; exact e⟩) this.1
        · exact ih this.2 x hx' y hy' e
  unfold apart
  simp only [Bool.and_eq_true, List.all_eq_true, decide_eq_true_eq]
  constructor
  · intro p hp
    obtain ⟨x, hx, rfl⟩ := List.mem_map.mp hp
    exact List.all_eq_true.mp rows_apart.2 x (hs x hx)
  · have e : (kS L).map (fun p => kHash p.1) = L.map hRow := by rw [List.map_map]; rfl
    rw [e]
    clear e
    induction L with
    | nil => simp
    | cons x L ih =>
      rw [List.nodup_cons] at h
      rw [List.map_cons, List.nodup_cons]
      refine ⟨fun hm => ?_, ih h.2 fun y hy => hs y (List.mem_cons_of_mem _ hy)⟩
      obtain ⟨y, hy, e⟩ := List.mem_map.mp hm
      exact h.1 ((inj x (hs x (List.mem_cons_self ..)) y (hs y (List.mem_cons_of_mem _ hy)) e.symm) ▸ hy)
end U

/-! V3: sorting, sets of any keys, and the deck that is drawn from. -/
namespace U
open PySem PySem.Spec PyProof.Rows L2
/- a loop that goes on to its end, each step knowing its place -/
theorem for_at {α : Type} (enc : α → D) {t : Tg} {f : FS} (J : List α → Ev → AH → Prop) : ∀ {xs done : List α} {env : Ev} {ah : AH}, J done env ah →
    (∀ x rest done' env ah, done ++ xs = done' ++ x :: rest → J done' env ah → ∃ env1, bindT t (enc x) env = some env1 ∧ ∃ env2 ah2, f env1 ah = some (.nx env2 ah2) ∧ J (done' ++ [x]) env2 ah2) →
    ∃ env' ah', forGo t f (xs.map enc) env ah = some (.nx env' ah') ∧ J (done ++ xs) env' ah'
  | [], done, env, ah, hj, _ => ⟨env, ah, rfl, by rw [List.append_nil]; exact hj⟩
  | x :: xs, done, env, ah, hj, h => by
    obtain ⟨env1, h1, env2, ah2, h2, hj2⟩ := h x xs done env ah rfl hj
    obtain ⟨env', ah', h3, h4⟩ := for_at (f := f) (t := t) enc J (xs := xs) (done := done ++ [x]) hj2 fun y rest done' env ah e => h y rest done' env ah (by rw [← e, List.append_assoc]; rfl)
    refine ⟨env', ah', ?_, by rw [List.append_assoc] at h4; exact h4⟩
    simp only [List.map_cons, forGo, h1, Option.bind_some, h2]
    exact h3
theorem perm_map {α β : Type} (f : α → β) {l m : List β} (h : l.Perm m) : ∀ L : List α, m = L.map f → ∃ L' : List α, l = L'.map f ∧ L'.Perm L := by
  induction h with
  | nil => exact fun L e => ⟨[], rfl, by cases L with | nil => exact .nil | cons a L => simp at e⟩
  | cons x h ih =>
    intro L e
    cases L with
    | nil => simp at e
    | cons a L =>
      simp only [List.map_cons, List.cons.injEq] at e
      obtain ⟨L', e1, p⟩ := ih L e.2
      exact ⟨a :: L', by rw [List.map_cons, e1, e.1], .cons a p⟩
  | swap x y l =>
    intro L e
    match L, e with
    | [], e => simp at e
    | [a], e => simp at e
    | a :: b :: L, e =>
      simp only [List.map_cons, List.cons.injEq] at e
      exact ⟨b :: a :: L, by rw [List.map_cons, List.map_cons, e.1, e.2.1, e.2.2], .swap ..⟩
  | trans h1 h2 ih1 ih2 =>
    intro L e
    obtain ⟨L1, e1, p1⟩ := ih2 L e
    obtain ⟨L2, e2, p2⟩ := ih1 L1 e1
    exact ⟨L2, e2, p2.trans p1⟩
theorem sort_map {α : Type} (enc : α → D) (hf : ∀ a, flat 30 (enc a) = true) (hal : ∀ a b, PySem.W.alike (toP (enc a)) (toP (enc b)) = true) (ht : (∀ a, isTupD (enc a) = true) ∨ (∀ a, isItem (enc a) = true)) (L : List α) :
    ∃ L' : List α, sortD (.lst (L.map enc)) = some (.f (.lst (L'.map enc))) ∧ L'.Perm L := by
  have hs : sortable (L.map enc) = true := by
    unfold sortable
    simp only [Bool.and_eq_true, List.all_map, List.all_eq_true, Bool.or_eq_true, Function.comp_apply]
    refine ⟨⟨?_, fun a _ b _ => hal a b⟩, ht.elim (fun h => .inl fun a _ => h a) fun h => .inr fun a _ => h a⟩
    induction L with
    | nil => simp [flats]
    | cons a L ih => rw [List.map_cons, flats, hf, ih]; rfl
  obtain ⟨L', e, p⟩ := perm_map enc (List.mergeSort_perm (L.map enc) (PySem.W.dataLe false toP)) L rfl
  exact ⟨L', by simp only [sortD, hs, if_true, sortedL, e], p⟩
theorem alike_ints : ∀ xs ys : List Int, PySem.W.alikeAll (toPs (xs.map .int)) (toPs (ys.map .int)) = true
  | [], _ => by simp [toPs, PySem.W.alikeAll]
  | x :: xs, [] => by simp [toPs, PySem.W.alikeAll]
  | x :: xs, y :: ys => by rw [List.map_cons, List.map_cons, toPs, toPs, PySem.W.alikeAll, alike_ints xs ys]; simp [toP, PySem.W.alike]
theorem alike_tI (xs ys : List Int) : PySem.W.alike (toP (tI xs)) (toP (tI ys)) = true := by rw [toP, toP, PySem.W.alike]; exact alike_ints xs ys
theorem sort_tI (L : List (List Int)) : ∃ L' : List (List Int), sortD (.lst (L.map tI)) = some (.f (.lst (L'.map tI))) ∧ L'.Perm L := sort_map tI (fun a => flat_tI 29 a) alike_tI (.inl fun _ => rfl) L
/- pairs of rows -/
abbrev tP (p : List Int × List Int) : D := .tup [tI p.1, tI p.2]
theorem sort_tP (L : List (List Int × List Int)) : ∃ L' : List (List Int × List Int), sortD (.lst (L.map tP)) = some (.f (.lst (L'.map tP))) ∧ L'.Perm L :=
  sort_map tP (fun a => by simp [flat, flats, flats_int]) (fun a b => by
    have h1 := alike_tI a.1 b.1
    have h2 := alike_tI a.2 b.2
    simp only [toP, toPs, PySem.W.alike, PySem.W.alikeAll, Bool.and_true, Bool.and_eq_true] at h1 h2 ⊢
    exact ⟨h1, h2⟩) (.inl fun _ => rfl) L
/- sets of any keys -/
section
variable {α : Type} [DecidableEq α] (enc : α → D) (key : α → NestedKey) (hk : ∀ a, kk (enc a) = some (.n (key a))) (inj : ∀ a b, key a = key b → a = b)
abbrev kE (enc : α → D) (L : List α) : List (D × D) := L.map fun x => (enc x, .bl true)
def addE (L : List α) (x : α) : List α := if x ∈ L then L else L ++ [x]
include hk inj in
theorem dput_kE (L : List α) (x : α) (hl : L.length < big) : dput (kE enc L) (enc x) (.bl true) = some (kE enc (addE L x)) := by
  have ke : ∀ y, decide (kk (enc y) = some (.n (key x))) = decide (y = x) := fun y => by
    rw [hk]
    by_cases e : y = x
    · simp [e]
    · have : ¬ key y = key x := fun z => e (inj _ _ z)
      simp [e, this]
  have sk : sameKind (kE enc L) (.n (key x)) = true := by
    unfold sameKind kE
    rw [List.all_map, List.all_eq_true]
    intro y _
    simp only [Function.comp, hk]
    rfl
  unfold dput
  rw [hk]
  have h1 : (sameKind (kE enc L) (.n (key x)) && decide ((kE enc L).length < big)) = true := by
    rw [sk, Bool.true_and, decide_eq_true_eq, List.length_map]
    exact hl
  simp only [h1, if_true]
  congr 1
  unfold putD addE kE
  have h2 : ((L.map fun x => (enc x, D.bl true)).any fun p => decide (kk p.1 = some (.n (key x)))) = decide (x ∈ L) := by
    rw [List.any_map]
    have hf : ((fun p : D × D => decide (kk p.1 = some (.n (key x)))) ∘ fun y => (enc y, D.bl true)) = fun y => decide (y = x) := funext ke
    rw [hf]
    clear hf h1 sk hl
    induction L with
    | nil => simp
    | cons p L ih =>
      rw [List.any_cons, ih]
      by_cases e : p = x
      · simp [e]
      · have : ¬ x = p := fun z => e z.symm
        simp [e, this]
  rw [h2]
  by_cases h : x ∈ L
  · rw [if_pos (by simpa using h), if_pos h, List.map_map]
    refine List.map_congr_left fun y _ => ?_
    have := ke y
    by_cases e : y = x
    · simp only [e, decide_true, decide_eq_true_eq] at this
      simp [Function.comp, e, this]
    · simp only [e, decide_false, decide_eq_false_iff_not] at this
      simp [Function.comp, e, this]
  · rw [if_neg (by simpa using h), if_neg h, List.map_append]
    rfl
omit [DecidableEq α] in
theorem keys_kE (L : List α) : (kE enc L).map (·.1) = L.map enc := by rw [List.map_map]; rfl
theorem addE_mem {L : List α} {x y : α} : y ∈ addE L x ↔ y ∈ L ∨ y = x := by
  unfold addE
  split
  · exact ⟨.inl, fun h => h.elim id fun e => by rw [e]; assumption⟩
  · simp
theorem addE_len {L : List α} {x : α} : (addE L x).length ≤ L.length + 1 := by
  unfold addE
  split
  · omega
  · simp
end
def keyP (p : List Int × List Int) : NestedKey := .tup [.tup (p.1.map .num), .tup (p.2.map .num)]
theorem kk_tP (p : List Int × List Int) : kk (tP p) = some (.n (keyP p)) := by
  unfold kk keyP
  simp only [nkey, nkeys, nkeys_int, Option.map_some, Option.bind_some, NestedKey.depth, NestedKey.depthAll, depth_num]
  rfl
theorem keyP_inj (a b : List Int × List Int) (h : keyP a = keyP b) : a = b := by
  unfold keyP at h
  simp only [NestedKey.tup.injEq, List.cons.injEq, and_true] at h
  exact Prod.ext (num_inj h.1) (num_inj h.2)
theorem dput_tP (L : List (List Int × List Int)) (x : List Int × List Int) (hl : L.length < big) : dput (kE tP L) (tP x) (.bl true) = some (kE tP (addE L x)) := dput_kE tP keyP kk_tP keyP_inj L x hl
/- comprehensions that draw -/
theorem lcGo_draw {α : Type} (enc : α → D) {t : Tg} {c : FB} {e : FV} {env0 : Ev} (J : AH → Prop) (g : α → D) : ∀ {xs : List α} {ah : AH}, J ah → (∀ x ∈ xs, ∀ ah, J ah → ∃ env, bindT t (enc x) env0 = some env ∧ ∃ b ah', c env ah = some (b, ah') ∧ J ah' ∧ (b = true → e env ah' = some (g x, ah'))) →
    ∃ (ys : List α) (ah' : AH), lcGo t c e env0 (xs.map enc) ah = some (ys.map g, ah') ∧ J ah' ∧ ys.Sublist xs
  | [], ah, j, _ => ⟨[], ah, rfl, j, .slnil⟩
  | x :: xs, ah, j, h => by
    obtain ⟨env, h1, b, ah1, h2, j1, h3⟩ := h x (List.mem_cons_self ..) ah j
    obtain ⟨ys, ah2, e2, j2, s2⟩ := lcGo_draw enc (t := t) (c := c) (e := e) (env0 := env0) J g (xs := xs) (ah := ah1) j1 fun y hy => h y (List.mem_cons_of_mem _ hy)
    cases b with
    | true => exact ⟨x :: ys, ah2, by rw [List.map_cons, lcGo, h1, Option.bind_some, h2, Option.bind_some]; simp only [if_true, h3 rfl, Option.bind_some, e2, Option.map_some, List.map_cons], j2, s2.cons_cons x⟩
    | false => exact ⟨ys, ah2, by rw [List.map_cons, lcGo, h1, Option.bind_some, h2, Option.bind_some]; simp only [Bool.false_eq_true, if_false, e2], j2, s2.cons x⟩
theorem ev_lcD {α : Type} (enc : α → D) {G : Nat → FG} {t : Tg} {vs : List Nat} {w c e : E} {env : Ev} {ah : AH} {gu : Gu} (J : AH → Prop) (g : α → D) {xs : List α} (j : J ah) (hi : w.i G env ah = some ((xs.map enc, gu), ah)) (hv : (tgIn t vs && noOw env vs && decide (xs.length ≤ big)) = true)
    (h : ∀ x ∈ xs, ∀ ah, J ah → ∃ env', bindT t (enc x) (wipeE env vs) = some env' ∧ ∃ b ah', c.c G env' ah = some (b, ah') ∧ J ah' ∧ (b = true → vl (e.v G) env' ah' = some (g x, ah'))) :
    ∃ (ys : List α) (ah' : AH), (E.lc t vs w c e).v G env ah = some (.f (.lst (ys.map g)), ah') ∧ J ah' ∧ ys.Sublist xs := by
  obtain ⟨ys, ah', e1, j1, s1⟩ := lcGo_draw enc (t := t) (c := c.c G) (e := vl (e.v G)) (env0 := wipeE env vs) J g (xs := xs) (ah := ah) j h
  refine ⟨ys, ah', ?_, j1, s1⟩
  rw [E.v, sLc, hi, Option.bind_some]
  have hv' : (tgIn t vs && noOw env vs && decide ((xs.map enc).length ≤ big)) = true := by rw [List.length_map]; exact hv
  simp only [hv', if_true, e1, Option.map_some]
/- the deck -/
abbrev kGreat : Str := { cps := #[103, 114, 101, 97, 116] }
abbrev kMixed : Str := { cps := #[109, 105, 120, 101, 100] }
abbrev kTurns : Str := { cps := #[116, 117, 114, 110, 115] }
abbrev dDeck (m t : Int) : D := .dct [(.str kGreat, .ref 0), (.str kMixed, .int m), (.str kTurns, .int t)]
def Dk (p : Int) (ah : AH) : Prop := ∃ (gs : List Int) (m t : Int), gs.length ≤ 63 ∧ 0 ≤ m ∧ m < p ∧ ah = [.lst (gs.map .int), dDeck m t]
def bDraw (c1 p1 c2 c3 p2 c4 p3 dv : Int) : S := (S.seq (S.ifS (E.cmp (CmpOp.Lt) (E.var 1) (E.cn (Cn.int 2))) (S.seq (S.ret (E.cn (Cn.int 0))) (S.skip)) (S.skip)) (S.seq (S.ifS (E.cmp (CmpOp.NotEq) (E.ix (E.var 0) (E.cn (Cn.str kGreat))) (E.lst (E.nil))) (S.seq (S.asg 3 (E.frz (E.pop (E.ix (E.var 0) (E.cn (Cn.str kGreat)))))) (S.seq (S.ifS (E.cmp (CmpOp.GtE) (E.var 3) (E.var 1)) (S.seq (S.app (E.ix (E.var 0) (E.cn (Cn.str kGreat))) (E.bin (Operator.FloorDiv) (E.var 3) (E.var 1))) (S.skip)) (S.skip)) (S.seq (S.ret (E.bin (Operator.Mod) (E.b1 (B1.int) (E.var 3)) (E.var 1))) (S.skip)))) (S.skip)) (S.seq (S.put (E.var 0) (E.cn (Cn.str kTurns)) (E.bin (Operator.Add) (E.ix (E.var 0) (E.cn (Cn.str kTurns))) (E.cn (Cn.int 1)))) (S.seq (S.asg 2 (E.frz (E.bin (Operator.Mod) (E.b1 (B1.int) (E.bin (Operator.Add) (E.ix (E.var 0) (E.cn (Cn.str kMixed))) (E.bin (Operator.Mult) (E.cn (Cn.int c1)) (E.ix (E.var 0) (E.cn (Cn.str kTurns)))))) (E.cn (Cn.int p1))))) (S.seq (S.asg 2 (E.frz (E.bin (Operator.Mod) (E.b1 (B1.int) (E.bin (Operator.Add) (E.bin (Operator.Add) (E.bin (Operator.Mult) (E.var 2) (E.var 2)) (E.bin (Operator.Mult) (E.cn (Cn.int c2)) (E.ix (E.var 0) (E.cn (Cn.str kTurns))))) (E.cn (Cn.int c3)))) (E.cn (Cn.int p2))))) (S.seq (S.asg 2 (E.frz (E.bin (Operator.Mod) (E.b1 (B1.int) (E.bin (Operator.Add) (E.bin (Operator.Mult) (E.var 2) (E.var 2)) (E.bin (Operator.Mult) (E.ix (E.var 0) (E.cn (Cn.str kMixed))) (E.cn (Cn.int c4))))) (E.cn (Cn.int p3))))) (S.seq (S.ret (E.bin (Operator.Mod) (E.b1 (B1.int) (E.bin (Operator.FloorDiv) (E.var 2) (E.cn (Cn.int dv)))) (E.var 1))) (S.skip))))))))
theorem kk_str (x : Str) : kk (.str x) = some (.k (.inr x)) := rfl
theorem ix_great {m t : Int} {r : D} : ixD (.dct [(.str kGreat, r), (.str kMixed, .int m), (.str kTurns, .int t)]) (.str kGreat) = some (.v r) := by
  simp [ixD, dfind, kk_str, sameKind, KK.isK]
theorem ix_mixed {m t : Int} {r : D} : ixD (.dct [(.str kGreat, r), (.str kMixed, .int m), (.str kTurns, .int t)]) (.str kMixed) = some (.v (.int m)) := by
  simp [ixD, dfind, kk_str, sameKind, KK.isK]
theorem ix_turns {m t : Int} {r : D} : ixD (.dct [(.str kGreat, r), (.str kMixed, .int m), (.str kTurns, .int t)]) (.str kTurns) = some (.v (.int t)) := by
  simp [ixD, dfind, kk_str, sameKind, KK.isK]
theorem put_turns {m t u : Int} {r : D} : putAt (.dct [(.str kGreat, r), (.str kMixed, .int m), (.str kTurns, .int t)]) (.str kTurns) (.int u) = some (.dct [(.str kGreat, r), (.str kMixed, .int m), (.str kTurns, .int u)]) := by
  simp [putAt, dput, putD, kk_str, sameKind, KK.isK, big]
theorem put_mixed {m t u : Int} {r : D} : putAt (.dct [(.str kGreat, r), (.str kMixed, .int m), (.str kTurns, .int t)]) (.str kMixed) (.int u) = some (.dct [(.str kGreat, r), (.str kMixed, .int u), (.str kTurns, .int t)]) := by
  simp [putAt, dput, putD, kk_str, sameKind, KK.isK, big]
theorem eqD_ints0 (gs : List Int) : eqD (.lst (gs.map .int)) (.lst []) = some (gs.map D.int).isEmpty := eqD_lst0 _ (flats_int _ _)
theorem mod64 {a p : Int} (hp : 0 < p) (h : p ≤ 4294967296) : (-(2 ^ 64) < a % p ∧ a % p < 2 ^ 64) ∧ 0 ≤ a % p := by
  have h1 := Int.emod_nonneg a (show p ≠ 0 by omega)
  have h2 := Int.emod_lt_of_pos a hp
  omega
theorem addD_i (i j : Int) : addD (.int i) (.int j) = some (.v (.int (i + j))) := rfl
theorem intD_i (i : Int) : intD (.int i) = some (.v (.int i)) := rfl
theorem mulD_l {i : Int} (h : -(2 ^ 64) < i ∧ i < 2 ^ 64) (j : Int) : mulD (.int i) (.int j) = some (.v (.int (i * j))) := by unfold mulD; exact if_pos (.inl h)
theorem mulD_r {j : Int} (h : -(2 ^ 64) < j ∧ j < 2 ^ 64) (i : Int) : mulD (.int i) (.int j) = some (.v (.int (i * j))) := by unfold mulD; exact if_pos (.inr h)
theorem modD_p {j : Int} (h : 0 < j) (i : Int) : modD (.int i) (.int j) = some (.v (.int (i % j))) := by unfold modD; exact if_pos h
theorem fdivD_p {j : Int} (h : 0 < j ∧ j < 1073741824) (i : Int) : fdivD (.int i) (.int j) = some (.v (.int (i / j))) := by unfold fdivD; exact if_pos h
theorem draw_G {T : List Fd} {j : Nat} {c1 p1 c2 c3 p2 c4 p3 dv p : Int} (hT : T[j]? = some ⟨2, 4, bDraw c1 p1 c2 c3 p2 c4 p3 dv⟩) (h1 : 0 < p1 ∧ p1 ≤ 4294967296) (h2 : 0 < p2 ∧ p2 ≤ 4294967296) (h3 : 0 < p3 ∧ p3 ≤ 4294967296) (hd : 0 < dv ∧ dv < 1073741824) (hc : (-(2 ^ 64) < c1 ∧ c1 < 2 ^ 64) ∧ (-(2 ^ 64) < c2 ∧ c2 < 2 ^ 64) ∧ (-(2 ^ 64) < c4 ∧ c4 < 2 ^ 64))
    {k : Nat} {n : Int} {ah : AH} (hn : n < 1073741824) (dk : Dk p ah) : ∃ r ah', callN T (k + 1) j [.ref 1, .int n] ah = some (.v (.int r), ah') ∧ Dk p ah' ∧ 0 ≤ r ∧ (r < n ∨ r = 0) := by
  obtain ⟨gs, m, t, hg, m0, m1, rfl⟩ := dk
  rw [callN_at (fd := ⟨2, 4, bDraw c1 p1 c2 c3 p2 c4 p3 dv⟩) hT rfl]
  by_cases hn2 : n < 2
  · refine ⟨0, _, ?_, ⟨gs, m, t, hg, m0, m1, rfl⟩, by omega, .inr rfl⟩
    simp [runF, S.sem, fSeq, fIf, fRet, fRetN, fSkip, fDrop, fAsg, fAsgT, fPar, fPar3, asgRw, fFor, fMut, fPut, fUpd, E.v, E.a, E.i, E.o, E.c, sVar, sCon, sTup, sLst, aNil, aCons, vl, vv, sOp1, sOp2, sB, bE, bNot, bAnd, bOr, sAnd, sOr, sIte, sChn, sSl, oNone, oSome, sCall, sPop, sDnew, sDisp, sLrg, sShr, iOf, iRan1, iRan2, bYes, Cn.d, B1.sem, rr_tup, rr_lst, rr_scr, rr_dct, rr_int, rr_str, rr_bl, rr_non, rr_ref, rr_f, rr_o, Rw.val, binD, cmpR, cmpD, ofB, List.replicate, bDraw, cmpD, ltD, hn2]
  · have np : 0 < n := by omega
    have b2 : 2 ≤ n := by omega
    cases hge : (gs.map D.int).isEmpty with
    | true =>
      have hgs : gs = [] := by cases gs with | nil => rfl | cons a gs => simp at hge
      subst hgs
      obtain ⟨a1, a2⟩ := mod64 (a := m + c1 * (t + 1)) h1.1 h1.2
      obtain ⟨a3, a4⟩ := mod64 (a := (m + c1 * (t + 1)) % p1 * ((m + c1 * (t + 1)) % p1) + c2 * (t + 1) + c3) h2.1 h2.2
      refine ⟨(((((m + c1 * (t + 1)) % p1 * ((m + c1 * (t + 1)) % p1) + c2 * (t + 1) + c3) % p2 * (((m + c1 * (t + 1)) % p1 * ((m + c1 * (t + 1)) % p1) + c2 * (t + 1) + c3) % p2) + m * c4) % p3) / dv) % n, _, ?_, ⟨[], m, t + 1, by simp, m0, m1, rfl⟩, Int.emod_nonneg _ (by omega), .inl (Int.emod_lt_of_pos _ np)⟩
      have eg : eqD (.lst []) (.lst []) = some true := rfl
      have e0 : ltD (.int n) (.int 2) = some false := by simp [ltD, hn2]
      simp [runF, S.sem, fSeq, fIf, fRet, fRetN, fSkip, fDrop, fAsg, fAsgT, fPar, fPar3, asgRw, fFor, fMut, fPut, fUpd, E.v, E.a, E.i, E.o, E.c, sVar, sCon, sTup, sLst, aNil, aCons, vl, vv, sOp1, sOp2, sB, bE, bNot, bAnd, bOr, sAnd, sOr, sIte, sChn, sSl, oNone, oSome, sCall, sPop, sDnew, sDisp, sLrg, sShr, iOf, iRan1, iRan2, bYes, Cn.d, B1.sem, rr_tup, rr_lst, rr_scr, rr_dct, rr_int, rr_str, rr_bl, rr_non, rr_ref, rr_f, rr_o, Rw.val, binD, cmpR, cmpD, ofB, List.replicate, bDraw, e0, ix_great, ix_mixed, ix_turns, put_turns, eg, dDeck, locOf, at', upE, upA, addD_i, intD_i, mulD_l hc.1, mulD_l hc.2.1, mulD_r hc.2.2, mulD_l a1, mulD_l a3, modD_p h1.1, modD_p h2.1, modD_p h3.1, modD_p np, fdivD_p hd, big]
    | false =>
      have eg := eqD_ints0 gs
      rw [hge] at eg
      have e0 : ltD (.int n) (.int 2) = some false := by simp [ltD, hn2]
      have hne : gs ≠ [] := fun e => by rw [e] at hge; simp at hge
      obtain ⟨ini, g, rfl⟩ : ∃ ini g, gs = ini ++ [g] := ⟨gs.dropLast, gs.getLast hne, (List.dropLast_concat_getLast hne).symm⟩
      have hl : ini.length + 1 ≤ 63 := by simpa using hg
      have epop : ((ini ++ [g]).map D.int)[((ini ++ [g]).map D.int).length - 1]? = some (.int g) := by simp
      have edrop : ((ini ++ [g]).map D.int).dropLast = ini.map .int := by simp
      generalize (ini ++ [g]).map D.int = gD at *
      by_cases hgn : g < n
      · have e1 : ltD (.int g) (.int n) = some true := by simp [ltD, hgn]
        refine ⟨g % n, _, ?_, ⟨ini, m, t, by omega, m0, m1, rfl⟩, Int.emod_nonneg _ (by omega), .inl (Int.emod_lt_of_pos _ np)⟩
        simp [runF, S.sem, fSeq, fIf, fRet, fRetN, fSkip, fDrop, fAsg, fAsgT, fPar, fPar3, asgRw, fFor, fMut, fPut, fUpd, E.v, E.a, E.i, E.o, E.c, sVar, sCon, sTup, sLst, aNil, aCons, vl, vv, sOp1, sOp2, sB, bE, bNot, bAnd, bOr, sAnd, sOr, sIte, sChn, sSl, oNone, oSome, sCall, sPop, sDnew, sDisp, sLrg, sShr, iOf, iRan1, iRan2, bYes, Cn.d, B1.sem, rr_tup, rr_lst, rr_scr, rr_dct, rr_int, rr_str, rr_bl, rr_non, rr_ref, rr_f, rr_o, Rw.val, binD, cmpR, cmpD, ofB, List.replicate, bDraw, e0, ix_great, eg, epop, edrop, e1, modD_p np, intD_i, big]
      · have e1 : ltD (.int g) (.int n) = some false := by simp [ltD, hgn]
        have hla : ini.length < big := by show _ < 1000000; omega
        refine ⟨g % n, _, ?_, ⟨ini ++ [g / n], m, t, by simpa using hl, m0, m1, by rw [List.map_append]⟩, Int.emod_nonneg _ (by omega), .inl (Int.emod_lt_of_pos _ np)⟩
        simp [runF, S.sem, fSeq, fIf, fRet, fRetN, fSkip, fDrop, fAsg, fAsgT, fPar, fPar3, asgRw, fFor, fMut, fPut, fUpd, E.v, E.a, E.i, E.o, E.c, sVar, sCon, sTup, sLst, aNil, aCons, vl, vv, sOp1, sOp2, sB, bE, bNot, bAnd, bOr, sAnd, sOr, sIte, sChn, sSl, oNone, oSome, sCall, sPop, sDnew, sDisp, sLrg, sShr, iOf, iRan1, iRan2, bYes, Cn.d, B1.sem, rr_tup, rr_lst, rr_scr, rr_dct, rr_int, rr_str, rr_bl, rr_non, rr_ref, rr_f, rr_o, Rw.val, binD, cmpR, cmpD, ofB, List.replicate, bDraw, e0, ix_great, eg, epop, edrop, e1, modD_p np, intD_i, fdivD_p ⟨np, hn⟩, appD, hla, locOf, at', isL, upE, upA]
def bDeck (c0 c5 c6 p : Int) : S := (S.seq (S.asg 1 (E.disp [Sum.inr kGreat, Sum.inr kMixed, Sum.inr kTurns] (E.cons (E.shr (E.lst (E.nil))) (E.cons (E.bin (Operator.Add) (E.cn (Cn.int c0)) (E.b1 (B1.len) (E.sl (E.var 0) (E.no) (E.yes (E.cn (Cn.int 63)))))) (E.cons (E.cn (Cn.int 0)) (E.nil)))))) (S.seq (S.for (E.it (E.sl (E.var 0) (E.no) (E.yes (E.cn (Cn.int 63))))) (Tg.nm 2) (S.seq (S.asg 3 (E.frz (E.bin (Operator.Add) (E.bin (Operator.Mult) (E.cn (Cn.int 2)) (E.b1 (B1.abs) (E.var 2))) (E.b1 (B1.int) (E.cmp (CmpOp.Lt) (E.var 2) (E.cn (Cn.int 0))))))) (S.seq (S.ifS (E.cmp (CmpOp.GtE) (E.var 3) (E.bin (Operator.Pow) (E.cn (Cn.int 10)) (E.cn (Cn.int 16)))) (S.seq (S.app (E.ix (E.var 1) (E.cn (Cn.str kGreat))) (E.var 3)) (S.skip)) (S.skip)) (S.seq (S.put (E.var 1) (E.cn (Cn.str kMixed)) (E.bin (Operator.Mod) (E.b1 (B1.int) (E.bin (Operator.Add) (E.bin (Operator.Add) (E.bin (Operator.Mult) (E.ix (E.var 1) (E.cn (Cn.str kMixed))) (E.cn (Cn.int c5))) (E.var 3)) (E.cn (Cn.int c6)))) (E.cn (Cn.int p)))) (S.skip))))) (S.seq (S.ret (E.var 1)) (S.skip))))
def innF : S → S
  | .seq _ (.seq (.for _ _ b) _) => b
  | _ => .skip
theorem cut_all (xs : List D) (h : xs.length ≤ 63) : cutD xs none (some 63) = xs := by
  have e0 : HT.sIx xs.length 0 none = 0 := rfl
  have e1 : HT.sIx xs.length xs.length (some 63) = min 63 xs.length := by simp [HT.sIx]
  unfold cutD
  rw [e0, e1, List.drop_zero, Nat.min_eq_right h, Nat.sub_zero]
  exact List.take_length
theorem deck_G {T : List Fd} {j : Nat} {c0 c5 c6 p : Int} (hT : T[j]? = some ⟨1, 4, bDeck c0 c5 c6 p⟩) (h0 : 0 ≤ c0 ∧ c0 + 63 < p) (hc : -(2 ^ 64) < c5 ∧ c5 < 2 ^ 64) {k : Nat} {ns : List Int} (hn : ns.length ≤ 63) :
    ∃ d gs, callN T (k + 1) j [.scr (ns.map .int)] [] = some (.f d, [.lst gs]) ∧ Dk p [.lst gs, d] := by
  rw [callN_at (fd := ⟨1, 4, bDeck c0 c5 c6 p⟩) hT rfl]
  have np : 0 < p := by omega
  obtain ⟨env', ah', e, gs, m, x2, x3, rfl, rfl, h1, h2, h3⟩ := for_at D.int (t := .nm 2) (f := (innF (bDeck c0 c5 c6 p)).sem (callN T k))
    (fun done env ah => ∃ (gs : List Int) (m : Int) (x2 x3 : Sl), env = [.va (.scr (ns.map .int)), .ow (dDeck m 0), x2, x3] ∧ ah = [.lst (gs.map .int)] ∧ gs.length ≤ done.length ∧ 0 ≤ m ∧ m < p) (xs := ns) (done := [])
    (env := [.va (.scr (ns.map .int)), .ow (dDeck (c0 + ns.length) 0), .un, .un]) (ah := [.lst []]) ⟨[], _, .un, .un, rfl, rfl, Nat.le_refl _, by omega, by omega⟩
    (fun x rest done env ah hd ⟨gs, m, x2, x3, he, ha, h1, h2, h3⟩ => by
      subst he ha
      have hdl : done.length + 1 ≤ 63 := by have := congrArg List.length hd; simp at this; omega
      refine ⟨[.va (.scr (ns.map .int)), .ow (dDeck m 0), .va (.int x), x3], rfl, ?_⟩
      have ha : ∀ y : Int, absD (.int y) = some (.v (.int (if y < 0 then -y else y))) := fun _ => rfl
      have hi : ∀ c : Bool, intD (.bl c) = some (.v (.int (if c then 1 else 0))) := fun _ => rfl
      have hl : ∀ y z : Int, ltD (.int y) (.int z) = some (decide (y < z)) := fun _ _ => rfl
      have hp : powD (.int 10) (.int 16) = some (.v (.int 10000000000000000)) := by simp [powD]
      have hm : ∀ z : Int, mulD (.int 2) (.int z) = some (.v (.int (2 * z))) := mulD_l (by decide)
      have hg : (gs.map D.int).length < big := by rw [List.length_map]; show _ < 1000000; omega
      obtain ⟨w, hw⟩ : ∃ w : Int, 2 * (if x < 0 then -x else x) + (if x < 0 then 1 else 0) = w := ⟨_, rfl⟩
      have hi : intD (.bl (decide (x < 0))) = some (.v (.int (if x < 0 then 1 else 0))) := by simp [intD]
      by_cases hb : w < 10000000000000000
      · refine ⟨[.va (.scr (ns.map .int)), .ow (dDeck ((m * c5 + w + c6) % p) 0), .va (.int x), .va (.int w)], _, ?_, gs, (m * c5 + w + c6) % p, _, _, rfl, rfl, Nat.le_trans h1 (by simp), Int.emod_nonneg _ (by omega), Int.emod_lt_of_pos _ np⟩
        simp [runF, S.sem, fSeq, fIf, fRet, fRetN, fSkip, fDrop, fAsg, fAsgT, fPar, fPar3, asgRw, fFor, fMut, fPut, fUpd, E.v, E.a, E.i, E.o, E.c, sVar, sCon, sTup, sLst, aNil, aCons, vl, vv, sOp1, sOp2, sB, bE, bNot, bAnd, bOr, sAnd, sOr, sIte, sChn, sSl, oNone, oSome, sCall, sPop, sDnew, sDisp, sLrg, sShr, iOf, iRan1, iRan2, bYes, Cn.d, B1.sem, rr_tup, rr_lst, rr_scr, rr_dct, rr_int, rr_str, rr_bl, rr_non, rr_ref, rr_f, rr_o, Rw.val, binD, cmpR, cmpD, ofB, List.replicate, bDeck, innF, ha, hi, hl, hp, hm, hw, hb, addD_i, intD_i, ix_mixed, put_mixed, mulD_r hc, modD_p np, locOf, at', upE, upA]
      · refine ⟨[.va (.scr (ns.map .int)), .ow (dDeck ((m * c5 + w + c6) % p) 0), .va (.int x), .va (.int w)], _, ?_, gs ++ [w], (m * c5 + w + c6) % p, _, _, rfl, rfl, by simp; omega, Int.emod_nonneg _ (by omega), Int.emod_lt_of_pos _ np⟩
        rw [List.length_map] at hg
        simp [runF, S.sem, fSeq, fIf, fRet, fRetN, fSkip, fDrop, fAsg, fAsgT, fPar, fPar3, asgRw, fFor, fMut, fPut, fUpd, E.v, E.a, E.i, E.o, E.c, sVar, sCon, sTup, sLst, aNil, aCons, vl, vv, sOp1, sOp2, sB, bE, bNot, bAnd, bOr, sAnd, sOr, sIte, sChn, sSl, oNone, oSome, sCall, sPop, sDnew, sDisp, sLrg, sShr, iOf, iRan1, iRan2, bYes, Cn.d, B1.sem, rr_tup, rr_lst, rr_scr, rr_dct, rr_int, rr_str, rr_bl, rr_non, rr_ref, rr_f, rr_o, Rw.val, binD, cmpR, cmpD, ofB, List.replicate, bDeck, innF, ha, hi, hl, hp, hm, hw, hb, addD_i, intD_i, ix_mixed, ix_great, put_mixed, mulD_r hc, modD_p np, locOf, at', isL, appD, hg, upE, upA])
  rw [List.nil_append] at h1
  refine ⟨dDeck m 0, gs.map .int, ?_, ⟨gs, m, 0, by omega, h2, h3, rfl⟩⟩
  have ec := cut_all (ns.map .int) (by rw [List.length_map]; exact hn)
  have hs : slD (.scr (ns.map .int)) none (some 63) = some (.f (.lst (ns.map .int))) := by rw [slD, ec]
  have hle : lenD (.lst (ns.map .int)) = some (.v (.int ns.length)) := by rw [lenD, List.length_map]
  simp [runF, S.sem, fSeq, fIf, fRet, fRetN, fSkip, fDrop, fAsg, fAsgT, fPar, fPar3, asgRw, fFor, fMut, fPut, fUpd, E.v, E.a, E.i, E.o, E.c, sVar, sCon, sTup, sLst, aNil, aCons, vl, vv, sOp1, sOp2, sB, bE, bNot, bAnd, bOr, sAnd, sOr, sIte, sChn, sSl, oNone, oSome, sCall, sPop, sDnew, sDisp, sLrg, sShr, iOf, iRan1, iRan2, bYes, Cn.d, B1.sem, rr_tup, rr_lst, rr_scr, rr_dct, rr_int, rr_str, rr_bl, rr_non, rr_ref, rr_f, rr_o, Rw.val, binD, cmpR, cmpD, ofB, List.replicate, bDeck, innF] at e
  simp [runF, S.sem, fSeq, fIf, fRet, fRetN, fSkip, fDrop, fAsg, fAsgT, fPar, fPar3, asgRw, fFor, fMut, fPut, fUpd, E.v, E.a, E.i, E.o, E.c, sVar, sCon, sTup, sLst, aNil, aCons, vl, vv, sOp1, sOp2, sB, bE, bNot, bAnd, bOr, sAnd, sOr, sIte, sChn, sSl, oNone, oSome, sCall, sPop, sDnew, sDisp, sLrg, sShr, iOf, iRan1, iRan2, bYes, Cn.d, B1.sem, rr_tup, rr_lst, rr_scr, rr_dct, rr_int, rr_str, rr_bl, rr_non, rr_ref, rr_f, rr_o, Rw.val, binD, cmpR, cmpD, ofB, List.replicate, bDeck, hs, hle, addD_i, big, keyD]
  rw [e]
  rfl
end U

/-! V4: what repr can show. -/
namespace U
open PySem PySem.Spec PyProof.Rows L2
structure Nice (dep n : Nat) (d : D) : Prop where
  fl : flat dep d = true
  sh : (toP d).showable = true
  lv : (toP d).leavesShort 13 = true
  bk : (toP d).bulk ≤ n
theorem Nice.up {dep n m : Nat} {d : D} (h : Nice dep n d) (hm : n ≤ m) : Nice dep m d := ⟨h.fl, h.sh, h.lv, Nat.le_trans h.bk hm⟩
theorem nice_int {dep n : Nat} {i : Int} (h : -1000000 ≤ i ∧ i ≤ 1000000) : Nice dep n (.int i) := by
  refine ⟨by simp [flat], ?_, ?_, by simp [toP, PyData.bulk]⟩
  · simp only [toP, PyData.showable, decide_eq_true_eq]
    have h1 : i.natAbs < 2 ^ 20 := by omega
    by_cases h0 : i.natAbs = 0
    · rw [h0]; decide
    · exact Nat.lt_trans ((Nat.log2_lt h0).mpr h1) (by decide)
  · simp only [toP, PyData.leavesShort, decide_eq_true_eq]
    exact PyData.shown_int_le2 (by omega) (by omega)
theorem nice_non {dep n : Nat} : Nice dep n .non := ⟨by simp [flat], by simp [toP, PyData.showable], by simp [toP, PyData.leavesShort], by simp [toP, PyData.bulk]⟩
theorem nice_bl {dep n : Nat} {b : Bool} : Nice dep n (.bl b) := ⟨by simp [flat], by simp [toP, PyData.showable], by simp [toP, PyData.leavesShort], by simp [toP, PyData.bulk]⟩
theorem nice_str {dep n : Nat} {x : Str} (h : x.cps.toList.all (fun c => decide (c < 16 ^ 8)) = true) (hl : x.length ≤ n) : Nice dep n (.str x) := ⟨by simp [flat], by simp [toP, PyData.showable], by simp only [toP, PyData.leavesShort]; exact h, by simp only [toP, PyData.bulk]; exact hl⟩
theorem nice_all {dep n : Nat} : ∀ {ds : List D}, (∀ d ∈ ds, Nice dep n d) → flats dep ds = true ∧ PyData.showableAll (toPs ds) = true ∧ PyData.leavesShortAll 13 (toPs ds) = true ∧ PyData.bulkAll (toPs ds) ≤ ds.length * (n + 1)
  | [], _ => ⟨by simp [flats], by simp [toPs, PyData.showableAll], by simp [toPs, PyData.leavesShortAll], by simp [toPs, PyData.bulkAll]⟩
  | d :: ds, h => by
    have h1 := h d (List.mem_cons_self ..)
    obtain ⟨a, b, c, e⟩ := nice_all fun x hx => h x (List.mem_cons_of_mem _ hx)
    refine ⟨by rw [flats, h1.fl, a]; rfl, by rw [toPs, PyData.showableAll, h1.sh, b]; rfl, by rw [toPs, PyData.leavesShortAll, h1.lv, c]; rfl, ?_⟩
    rw [toPs, PyData.bulkAll, List.length_cons, Nat.succ_mul]
    have := h1.bk
    omega
theorem nice_tup {dep n m : Nat} {ds : List D} (h : ∀ d ∈ ds, Nice dep n d) (hl : ds.length ≤ m) : Nice (dep + 1) (m * (n + 1)) (.tup ds) := by
  obtain ⟨a, b, c, e⟩ := nice_all h
  exact ⟨by rw [flat]; exact a, by rw [toP, PyData.showable]; exact b, by rw [toP, PyData.leavesShort]; exact c, by rw [toP, PyData.bulk]; exact Nat.le_trans e (Nat.mul_le_mul_right _ hl)⟩
theorem nice_lst {dep n m : Nat} {ds : List D} (h : ∀ d ∈ ds, Nice dep n d) (hl : ds.length ≤ m) : Nice (dep + 1) (m * (n + 1)) (.lst ds) := by
  obtain ⟨a, b, c, e⟩ := nice_all h
  exact ⟨by rw [flat]; exact a, by rw [toP, PyData.showable]; exact b, by rw [toP, PyData.leavesShort]; exact c, by rw [toP, PyData.bulk]; exact Nat.le_trans e (Nat.mul_le_mul_right _ hl)⟩
theorem repr_nice {n : Nat} {d : D} (h : Nice 30 n d) (hn : n ≤ 60000) : ∃ s, reprD d = some (.v (.str s)) := by
  have hb : (toP d).shown.length ≤ big := by
    have := PyData.shown_le_bulk 13 (by decide) (toP d) h.lv
    have h2 := h.bk
    show _ ≤ 1000000
    omega
  exact ⟨(toP d).shown, by unfold reprD; rw [h.fl, h.sh, decide_eq_true hb]; rfl⟩
/- rows of small numbers -/
theorem nice_tI {dep m : Nat} {xs : List Int} (h : ∀ x ∈ xs, -1000000 ≤ x ∧ x ≤ 1000000) (hl : xs.length ≤ m) : Nice (dep + 1) m (tI xs) := by
  have := nice_tup (dep := dep) (n := 0) (m := m) (ds := xs.map .int) (fun d hd => by
    obtain ⟨x, hx, rfl⟩ := List.mem_map.mp hd
    exact nice_int (h x hx)) (by rw [List.length_map]; exact hl)
  exact this.up (by omega)
theorem nice_tups {α : Type} {enc : α → D} {dep n m : Nat} {xs : List α} (h : ∀ x ∈ xs, Nice dep n (enc x)) (hl : xs.length ≤ m) : Nice (dep + 1) (m * (n + 1)) (.tup (xs.map enc)) :=
  nice_tup (fun d hd => by
    obtain ⟨x, hx, rfl⟩ := List.mem_map.mp hd
    exact h x hx) (by rw [List.length_map]; exact hl)
end U
namespace U.k83
open PySem PySem.Spec PyProof.Rows L2 U
def topS (i : Nat) : Stmt := PySem.Challenge.pw_stormwards_k83_whole_looks_that_end_at_o.main.body.getD i (.Pass ⟨0, 0, 0, 0⟩)
def fns : List Str := ["is_within", "common", "without", "page", "left_later", "has_to_be", "at_once", "_law_deck", "_law_draw", "_law_pick", "_law_part", "_law_sky", "_law_is_in", "_law_subsets", "_law_lot", "_law_family", "_law_sized", "_law_joins", "_law_kind", "_law_plan_any", "_law_has_lot", "_law_ends_so", "_law_due", "_law_is_torn", "law"]
abbrev g_is_within : Ga := ⟨["one", "other", "machine"], fns, [], []⟩
def b_is_within : S := (S.seq (S.ret (E.b1 (B1.all) (E.lc (Tg.nm 2) [2] (E.it (E.var 0)) (E.no) (E.cmp (CmpOp.In) (E.var 2) (E.var 1))))) (S.skip))
theorem c_is_within : cSs 60 g_is_within (defScope (topS 1)) (defBody (topS 1)) = some b_is_within := by decide +kernel
theorem s_is_within : FnScope g_is_within.N ["one", "other"] (defScope (topS 1)) := ⟨rfl, rfl, rfl, by decide +kernel, rfl, by decide +kernel, by decide +kernel⟩
abbrev g_common : Ga := ⟨["one", "other", "machine"], fns, [], []⟩
def b_common : S := (S.seq (S.ret (E.b1 (B1.tup) (E.lc (Tg.nm 2) [2] (E.it (E.var 0)) (E.yes (E.cmp (CmpOp.In) (E.var 2) (E.var 1))) (E.var 2)))) (S.skip))
theorem c_common : cSs 60 g_common (defScope (topS 2)) (defBody (topS 2)) = some b_common := by decide +kernel
theorem s_common : FnScope g_common.N ["one", "other"] (defScope (topS 2)) := ⟨rfl, rfl, rfl, by decide +kernel, rfl, by decide +kernel, by decide +kernel⟩
abbrev g_without : Ga := ⟨["one", "other", "machine"], fns, [], []⟩
def b_without : S := (S.seq (S.ret (E.b1 (B1.tup) (E.lc (Tg.nm 2) [2] (E.it (E.var 0)) (E.yes (E.cmp (CmpOp.NotIn) (E.var 2) (E.var 1))) (E.var 2)))) (S.skip))
theorem c_without : cSs 60 g_without (defScope (topS 3)) (defBody (topS 3)) = some b_without := by decide +kernel
theorem s_without : FnScope g_without.N ["one", "other"] (defScope (topS 3)) := ⟨rfl, rfl, rfl, by decide +kernel, rfl, by decide +kernel, by decide +kernel⟩
abbrev g_page : Ga := ⟨["plan", "rung", "own", "kind"], fns, [], []⟩
def b_page : S := (S.seq (S.for (E.it (E.ix (E.var 0) (E.cn (Cn.int 1)))) (Tg.tp (Tg.cons (Tg.nm 2) (Tg.cons (Tg.nm 3) (Tg.nil)))) (S.seq (S.ifS (E.cmp (CmpOp.Eq) (E.var 2) (E.var 1)) (S.seq (S.ret (E.var 3)) (S.skip)) (S.skip)) (S.skip))) (S.seq (S.ret (E.cn (Cn.non))) (S.skip)))
theorem c_page : cSs 60 g_page (defScope (topS 5)) (defBody (topS 5)) = some b_page := by decide +kernel
theorem s_page : FnScope g_page.N ["plan", "rung"] (defScope (topS 5)) := ⟨rfl, rfl, rfl, by decide +kernel, rfl, by decide +kernel, by decide +kernel⟩
abbrev g_left_later : Ga := ⟨["sky", "plan", "rung", "found", "later", "kind", "gone", "blank", "lot"], fns, ["found"], []⟩
def b_left_later : S := (S.seq (S.asg 3 (E.dnew)) (S.seq (S.for (E.it (E.ix (E.var 1) (E.cn (Cn.int 1)))) (Tg.tp (Tg.cons (Tg.nm 4) (Tg.cons (Tg.nm 5) (Tg.nil)))) (S.seq (S.ifS (E.call 0 (E.cons (E.var 2) (E.cons (E.var 4) (E.nil)))) (S.seq (S.for (E.it (E.ix (E.var 0) (E.cn (Cn.int 2)))) (Tg.tp (Tg.cons (Tg.nm 6) (Tg.cons (Tg.nm 7) (Tg.nil)))) (S.seq (S.ifS (E.call 0 (E.cons (E.var 4) (E.cons (E.var 6) (E.nil)))) (S.seq (S.upd (E.var 3) (E.dc (Tg.nm 8) [8] (E.it (E.ix (E.var 5) (E.cn (Cn.int 2)))) (E.no) (E.call 2 (E.cons (E.var 8) (E.cons (E.var 7) (E.nil)))) (E.cn (Cn.bl true)))) (S.skip)) (S.skip)) (S.skip))) (S.skip)) (S.skip)) (S.skip))) (S.seq (S.ret (E.b1 (B1.lst) (E.var 3))) (S.skip))))
theorem c_left_later : cSs 60 g_left_later (defScope (topS 7)) (defBody (topS 7)) = some b_left_later := by decide +kernel
theorem s_left_later : FnScope g_left_later.N ["sky", "plan", "rung"] (defScope (topS 7)) := ⟨rfl, rfl, rfl, by decide +kernel, rfl, by decide +kernel, by decide +kernel⟩
abbrev g_has_to_be : Ga := ⟨["plan", "manner", "rung", "some", "later", "own", "lot"], fns, [], []⟩
def b_has_to_be : S := (S.seq (S.ifS (E.cmp (CmpOp.Eq) (E.var 1) (E.cn (Cn.str { cps := #[115, 117, 114, 101] }))) (S.seq (S.ret (E.b1 (B1.any) (E.lc (Tg.nm 5) [5] (E.it (E.var 4)) (E.no) (E.cmp (CmpOp.Eq) (E.call 1 (E.cons (E.var 3) (E.cons (E.var 5) (E.nil)))) (E.tup (E.nil)))))) (S.skip)) (S.skip)) (S.seq (S.ifS (E.cmp (CmpOp.Eq) (E.var 1) (E.cn (Cn.str { cps := #[107, 101, 112, 116] }))) (S.seq (S.ret (E.not (E.b1 (B1.any) (E.lc (Tg.nm 6) [6] (E.it (E.ix (E.call 3 (E.cons (E.var 0) (E.cons (E.var 2) (E.nil)))) (E.cn (Cn.int 3)))) (E.no) (E.call 0 (E.cons (E.var 6) (E.cons (E.var 3) (E.nil)))))))) (S.skip)) (S.skip)) (S.seq (S.ret (E.cmp (CmpOp.Eq) (E.var 1) (E.cn (Cn.str { cps := #[97, 108, 119, 97, 121, 115] })))) (S.skip))))
theorem c_has_to_be : cSs 60 g_has_to_be (defScope (topS 8)) (defBody (topS 8)) = some b_has_to_be := by decide +kernel
theorem s_has_to_be : FnScope g_has_to_be.N ["plan", "manner", "rung", "some", "later"] (defScope (topS 8)) := ⟨rfl, rfl, rfl, by decide +kernel, rfl, by decide +kernel, by decide +kernel⟩
abbrev g_at_once : Ga := ⟨["sky", "plan", "manner", "rung", "kind", "later", "keep", "ask", "some"], fns, [], []⟩
def b_at_once : S := (S.seq (S.for (E.it (E.ix (E.var 1) (E.cn (Cn.int 1)))) (Tg.tp (Tg.cons (Tg.nm 3) (Tg.cons (Tg.nm 4) (Tg.nil)))) (S.seq (S.asg 5 (E.frz (E.ite (E.cmp (CmpOp.Eq) (E.var 2) (E.cn (Cn.str { cps := #[115, 117, 114, 101] }))) (E.call 4 (E.cons (E.var 0) (E.cons (E.var 1) (E.cons (E.var 3) (E.nil))))) (E.lst (E.nil))))) (S.seq (S.for (E.it (E.ix (E.var 4) (E.cn (Cn.int 3)))) (Tg.nm 6) (S.seq (S.for (E.it (E.ix (E.var 4) (E.cn (Cn.int 2)))) (Tg.nm 7) (S.seq (S.asg 8 (E.frz (E.call 1 (E.cons (E.var 6) (E.cons (E.var 7) (E.nil)))))) (S.seq (S.ifS (E.and (E.cmp (CmpOp.NotEq) (E.var 8) (E.tup (E.nil))) (E.call 5 (E.cons (E.var 1) (E.cons (E.var 2) (E.cons (E.var 3) (E.cons (E.var 8) (E.cons (E.var 5) (E.nil)))))))) (S.seq (S.ret (E.tup (E.cons (E.var 3) (E.cons (E.var 6) (E.cons (E.var 7) (E.nil)))))) (S.skip)) (S.skip)) (S.skip)))) (S.skip))) (S.skip)))) (S.seq (S.ret (E.cn (Cn.non))) (S.skip)))
theorem c_at_once : cSs 60 g_at_once (defScope (topS 10)) (defBody (topS 10)) = some b_at_once := by decide +kernel
theorem s_at_once : FnScope g_at_once.N ["sky", "plan", "manner"] (defScope (topS 10)) := ⟨rfl, rfl, rfl, by decide +kernel, rfl, by decide +kernel, by decide +kernel⟩
abbrev g_law_deck : Ga := ⟨["script", "deck", "cell", "own"], fns, ["deck"], []⟩
def b_law_deck : S := (S.seq (S.asg 1 (E.disp [Sum.inr { cps := #[103, 114, 101, 97, 116] }, Sum.inr { cps := #[109, 105, 120, 101, 100] }, Sum.inr { cps := #[116, 117, 114, 110, 115] }] (E.cons (E.shr (E.lst (E.nil))) (E.cons (E.bin (Operator.Add) (E.cn (Cn.int 15912)) (E.b1 (B1.len) (E.sl (E.var 0) (E.no) (E.yes (E.cn (Cn.int 63)))))) (E.cons (E.cn (Cn.int 0)) (E.nil)))))) (S.seq (S.for (E.it (E.sl (E.var 0) (E.no) (E.yes (E.cn (Cn.int 63))))) (Tg.nm 2) (S.seq (S.asg 3 (E.frz (E.bin (Operator.Add) (E.bin (Operator.Mult) (E.cn (Cn.int 2)) (E.b1 (B1.abs) (E.var 2))) (E.b1 (B1.int) (E.cmp (CmpOp.Lt) (E.var 2) (E.cn (Cn.int 0))))))) (S.seq (S.ifS (E.cmp (CmpOp.GtE) (E.var 3) (E.bin (Operator.Pow) (E.cn (Cn.int 10)) (E.cn (Cn.int 16)))) (S.seq (S.app (E.ix (E.var 1) (E.cn (Cn.str { cps := #[103, 114, 101, 97, 116] }))) (E.var 3)) (S.skip)) (S.skip)) (S.seq (S.put (E.var 1) (E.cn (Cn.str { cps := #[109, 105, 120, 101, 100] })) (E.bin (Operator.Mod) (E.b1 (B1.int) (E.bin (Operator.Add) (E.bin (Operator.Add) (E.bin (Operator.Mult) (E.ix (E.var 1) (E.cn (Cn.str { cps := #[109, 105, 120, 101, 100] }))) (E.cn (Cn.int 69621))) (E.var 3)) (E.cn (Cn.int 29)))) (E.cn (Cn.int 4294967291)))) (S.skip))))) (S.seq (S.ret (E.var 1)) (S.skip))))
theorem c_law_deck : cSs 60 g_law_deck (defScope (topS 12)) (defBody (topS 12)) = some b_law_deck := by decide +kernel
theorem s_law_deck : FnScope g_law_deck.N ["script"] (defScope (topS 12)) := ⟨rfl, rfl, rfl, by decide +kernel, rfl, by decide +kernel, by decide +kernel⟩
abbrev g_law_draw : Ga := ⟨["deck", "many", "number", "great"], fns, [], []⟩
def b_law_draw : S := (S.seq (S.ifS (E.cmp (CmpOp.Lt) (E.var 1) (E.cn (Cn.int 2))) (S.seq (S.ret (E.cn (Cn.int 0))) (S.skip)) (S.skip)) (S.seq (S.ifS (E.cmp (CmpOp.NotEq) (E.ix (E.var 0) (E.cn (Cn.str { cps := #[103, 114, 101, 97, 116] }))) (E.lst (E.nil))) (S.seq (S.asg 3 (E.frz (E.pop (E.ix (E.var 0) (E.cn (Cn.str { cps := #[103, 114, 101, 97, 116] })))))) (S.seq (S.ifS (E.cmp (CmpOp.GtE) (E.var 3) (E.var 1)) (S.seq (S.app (E.ix (E.var 0) (E.cn (Cn.str { cps := #[103, 114, 101, 97, 116] }))) (E.bin (Operator.FloorDiv) (E.var 3) (E.var 1))) (S.skip)) (S.skip)) (S.seq (S.ret (E.bin (Operator.Mod) (E.b1 (B1.int) (E.var 3)) (E.var 1))) (S.skip)))) (S.skip)) (S.seq (S.put (E.var 0) (E.cn (Cn.str { cps := #[116, 117, 114, 110, 115] })) (E.bin (Operator.Add) (E.ix (E.var 0) (E.cn (Cn.str { cps := #[116, 117, 114, 110, 115] }))) (E.cn (Cn.int 1)))) (S.seq (S.asg 2 (E.frz (E.bin (Operator.Mod) (E.b1 (B1.int) (E.bin (Operator.Add) (E.ix (E.var 0) (E.cn (Cn.str { cps := #[109, 105, 120, 101, 100] }))) (E.bin (Operator.Mult) (E.cn (Cn.int 2654435761)) (E.ix (E.var 0) (E.cn (Cn.str { cps := #[116, 117, 114, 110, 115] })))))) (E.cn (Cn.int 4294967279))))) (S.seq (S.asg 2 (E.frz (E.bin (Operator.Mod) (E.b1 (B1.int) (E.bin (Operator.Add) (E.bin (Operator.Add) (E.bin (Operator.Mult) (E.var 2) (E.var 2)) (E.bin (Operator.Mult) (E.cn (Cn.int 40692)) (E.ix (E.var 0) (E.cn (Cn.str { cps := #[116, 117, 114, 110, 115] }))))) (E.cn (Cn.int 23)))) (E.cn (Cn.int 4294967231))))) (S.seq (S.asg 2 (E.frz (E.bin (Operator.Mod) (E.b1 (B1.int) (E.bin (Operator.Add) (E.bin (Operator.Mult) (E.var 2) (E.var 2)) (E.bin (Operator.Mult) (E.ix (E.var 0) (E.cn (Cn.str { cps := #[109, 105, 120, 101, 100] }))) (E.cn (Cn.int 11))))) (E.cn (Cn.int 4294967197))))) (S.seq (S.ret (E.bin (Operator.Mod) (E.b1 (B1.int) (E.bin (Operator.FloorDiv) (E.var 2) (E.cn (Cn.int 64)))) (E.var 1))) (S.skip))))))))
theorem c_law_draw : cSs 60 g_law_draw (defScope (topS 13)) (defBody (topS 13)) = some b_law_draw := by decide +kernel
theorem s_law_draw : FnScope g_law_draw.N ["deck", "many"] (defScope (topS 13)) := ⟨rfl, rfl, rfl, by decide +kernel, rfl, by decide +kernel, by decide +kernel⟩
abbrev g_law_pick : Ga := ⟨["deck", "row"], fns, [], []⟩
def b_law_pick : S := (S.seq (S.ret (E.ix (E.var 1) (E.call 8 (E.cons (E.var 0) (E.cons (E.b1 (B1.len) (E.var 1)) (E.nil)))))) (S.skip))
theorem c_law_pick : cSs 60 g_law_pick (defScope (topS 14)) (defBody (topS 14)) = some b_law_pick := by decide +kernel
theorem s_law_pick : FnScope g_law_pick.N ["deck", "row"] (defScope (topS 14)) := ⟨rfl, rfl, rfl, by decide +kernel, rfl, by decide +kernel, by decide +kernel⟩
abbrev g_law_part : Ga := ⟨["deck", "items", "of", "item"], fns, [], []⟩
def b_law_part : S := (S.seq (S.ret (E.b1 (B1.tup) (E.lc (Tg.nm 3) [3] (E.it (E.var 1)) (E.yes (E.cmp (CmpOp.Eq) (E.call 8 (E.cons (E.var 0) (E.cons (E.var 2) (E.nil)))) (E.cn (Cn.int 0)))) (E.var 3)))) (S.skip))
theorem c_law_part : cSs 60 g_law_part (defScope (topS 15)) (defBody (topS 15)) = some b_law_part := by decide +kernel
theorem s_law_part : FnScope g_law_part.N ["deck", "items", "of"] (defScope (topS 15)) := ⟨rfl, rfl, rfl, by decide +kernel, rfl, by decide +kernel, by decide +kernel⟩
abbrev g_law_sky : Ga := ⟨["deck", "most", "many", "machines", "found", "bells", "turn"], fns, ["found"], []⟩
def b_law_sky : S := (S.seq (S.asg 2 (E.frz (E.bin (Operator.Add) (E.cn (Cn.int 2)) (E.call 8 (E.cons (E.var 0) (E.cons (E.bin (Operator.Sub) (E.var 1) (E.cn (Cn.int 1))) (E.nil))))))) (S.seq (S.par 3 4 (E.frz (E.lrg (E.var 2))) (E.dnew)) (S.seq (S.asg 5 (E.frz (E.call 10 (E.cons (E.var 0) (E.cons (E.var 3) (E.cons (E.cn (Cn.int 3)) (E.nil))))))) (S.seq (S.for (E.rng1 (E.bin (Operator.Add) (E.cn (Cn.int 1)) (E.call 8 (E.cons (E.var 0) (E.cons (E.cn (Cn.int 4)) (E.nil)))))) (Tg.nm 6) (S.seq (S.put (E.var 4) (E.tup (E.cons (E.call 10 (E.cons (E.var 0) (E.cons (E.var 3) (E.cons (E.cn (Cn.int 3)) (E.nil))))) (E.cons (E.call 10 (E.cons (E.var 0) (E.cons (E.var 3) (E.cons (E.cn (Cn.int 3)) (E.nil))))) (E.nil)))) (E.cn (Cn.bl true))) (S.skip))) (S.seq (S.ret (E.tup (E.cons (E.var 2) (E.cons (E.var 5) (E.cons (E.b1 (B1.tup) (E.b1 (B1.sorted) (E.b1 (B1.lst) (E.var 4)))) (E.nil)))))) (S.skip))))))
theorem c_law_sky : cSs 60 g_law_sky (defScope (topS 16)) (defBody (topS 16)) = some b_law_sky := by decide +kernel
theorem s_law_sky : FnScope g_law_sky.N ["deck", "most"] (defScope (topS 16)) := ⟨rfl, rfl, rfl, by decide +kernel, rfl, by decide +kernel, by decide +kernel⟩
abbrev g_law_is_in : Ga := ⟨["some", "others", "item"], fns, [], []⟩
def b_law_is_in : S := (S.seq (S.ret (E.cmp (CmpOp.Eq) (E.lc (Tg.nm 2) [2] (E.it (E.var 0)) (E.yes (E.cmp (CmpOp.NotIn) (E.var 2) (E.var 1))) (E.var 2)) (E.lst (E.nil)))) (S.skip))
theorem c_law_is_in : cSs 60 g_law_is_in (defScope (topS 17)) (defBody (topS 17)) = some b_law_is_in := by decide +kernel
theorem s_law_is_in : FnScope g_law_is_in.N ["some", "others"] (defScope (topS 17)) := ⟨rfl, rfl, rfl, by decide +kernel, rfl, by decide +kernel, by decide +kernel⟩
abbrev g_law_subsets : Ga := ⟨["items", "found", "item", "own"], fns, [], []⟩
def b_law_subsets : S := (S.seq (S.asg 1 (E.frz (E.lst (E.cons (E.tup (E.nil)) (E.nil))))) (S.seq (S.for (E.it (E.var 0)) (Tg.nm 2) (S.seq (S.asg 1 (E.frz (E.bin (Operator.Add) (E.var 1) (E.lc (Tg.nm 3) [3] (E.it (E.var 1)) (E.no) (E.bin (Operator.Add) (E.var 3) (E.tup (E.cons (E.var 2) (E.nil)))))))) (S.skip))) (S.seq (S.ret (E.var 1)) (S.skip))))
theorem c_law_subsets : cSs 60 g_law_subsets (defScope (topS 18)) (defBody (topS 18)) = some b_law_subsets := by decide +kernel
theorem s_law_subsets : FnScope g_law_subsets.N ["items"] (defScope (topS 18)) := ⟨rfl, rfl, rfl, by decide +kernel, rfl, by decide +kernel, by decide +kernel⟩
abbrev g_law_lot : Ga := ⟨["deck", "rest", "lot"], fns, [], []⟩
def b_law_lot : S := (S.seq (S.asg 2 (E.frz (E.call 10 (E.cons (E.var 0) (E.cons (E.var 1) (E.cons (E.cn (Cn.int 2)) (E.nil))))))) (S.seq (S.ret (E.ite (E.cmp (CmpOp.NotEq) (E.var 2) (E.tup (E.nil))) (E.var 2) (E.tup (E.cons (E.call 9 (E.cons (E.var 0) (E.cons (E.var 1) (E.nil)))) (E.nil))))) (S.skip)))
theorem c_law_lot : cSs 60 g_law_lot (defScope (topS 19)) (defBody (topS 19)) = some b_law_lot := by decide +kernel
theorem s_law_lot : FnScope g_law_lot.N ["deck", "rest"] (defScope (topS 19)) := ⟨rfl, rfl, rfl, by decide +kernel, rfl, by decide +kernel, by decide +kernel⟩
abbrev g_law_family : Ga := ⟨["deck", "rest", "most", "found", "turn"], fns, ["found"], []⟩
def b_law_family : S := (S.seq (S.asg 3 (E.dnew)) (S.seq (S.for (E.rng1 (E.bin (Operator.Add) (E.cn (Cn.int 1)) (E.call 8 (E.cons (E.var 0) (E.cons (E.var 2) (E.nil)))))) (Tg.nm 4) (S.seq (S.put (E.var 3) (E.call 14 (E.cons (E.var 0) (E.cons (E.var 1) (E.nil)))) (E.cn (Cn.bl true))) (S.skip))) (S.seq (S.ret (E.b1 (B1.tup) (E.b1 (B1.sorted) (E.b1 (B1.lst) (E.var 3))))) (S.skip))))
theorem c_law_family : cSs 60 g_law_family (defScope (topS 20)) (defBody (topS 20)) = some b_law_family := by decide +kernel
theorem s_law_family : FnScope g_law_family.N ["deck", "rest", "most"] (defScope (topS 20)) := ⟨rfl, rfl, rfl, by decide +kernel, rfl, by decide +kernel, by decide +kernel⟩
abbrev g_law_sized : Ga := ⟨["rest", "size", "lot"], fns, [], []⟩
def b_law_sized : S := (S.seq (S.ret (E.b1 (B1.tup) (E.sl (E.b1 (B1.sorted) (E.lc (Tg.nm 2) [2] (E.it (E.call 13 (E.cons (E.var 0) (E.nil)))) (E.yes (E.and (E.cmp (CmpOp.Eq) (E.b1 (B1.len) (E.var 2)) (E.var 1)) (E.cmp (CmpOp.NotEq) (E.var 2) (E.tup (E.nil))))) (E.var 2))) (E.no) (E.yes (E.cn (Cn.int 10)))))) (S.skip))
theorem c_law_sized : cSs 60 g_law_sized (defScope (topS 21)) (defBody (topS 21)) = some b_law_sized := by decide +kernel
theorem s_law_sized : FnScope g_law_sized.N ["rest", "size"] (defScope (topS 21)) := ⟨rfl, rfl, rfl, by decide +kernel, rfl, by decide +kernel, by decide +kernel⟩
abbrev g_law_joins : Ga := ⟨["deck", "rest", "found", "turn", "lot", "others", "p"], fns, ["found"], []⟩
def b_law_joins : S := (S.seq (S.asg 2 (E.dnew)) (S.seq (S.for (E.rng1 (E.call 8 (E.cons (E.var 0) (E.cons (E.cn (Cn.int 4)) (E.nil))))) (Tg.nm 3) (S.seq (S.asg 4 (E.frz (E.call 14 (E.cons (E.var 0) (E.cons (E.var 1) (E.nil)))))) (S.seq (S.asg 5 (E.frz (E.lc (Tg.nm 6) [6] (E.it (E.var 1)) (E.yes (E.cmp (CmpOp.NotIn) (E.var 6) (E.var 4))) (E.var 6)))) (S.seq (S.ifS (E.cmp (CmpOp.NotEq) (E.var 5) (E.lst (E.nil))) (S.seq (S.put (E.var 2) (E.tup (E.cons (E.call 14 (E.cons (E.var 0) (E.cons (E.var 5) (E.nil)))) (E.cons (E.var 4) (E.nil)))) (E.cn (Cn.bl true))) (S.skip)) (S.skip)) (S.skip))))) (S.seq (S.ret (E.b1 (B1.tup) (E.b1 (B1.sorted) (E.b1 (B1.lst) (E.var 2))))) (S.skip))))
theorem c_law_joins : cSs 60 g_law_joins (defScope (topS 22)) (defBody (topS 22)) = some b_law_joins := by decide +kernel
theorem s_law_joins : FnScope g_law_joins.N ["deck", "rest"] (defScope (topS 22)) := ⟨rfl, rfl, rfl, by decide +kernel, rfl, by decide +kernel, by decide +kernel⟩
abbrev g_law_kind : Ga := ⟨["deck", "rest", "is_joining", "sorts", "way", "size", "asks", "keeps", "joins"], fns, [], []⟩
def b_law_kind : S := (S.seq (S.par 4 5 (E.frz (E.call 8 (E.cons (E.var 0) (E.cons (E.cn (Cn.int 4)) (E.nil))))) (E.frz (E.bin (Operator.Add) (E.cn (Cn.int 1)) (E.call 8 (E.cons (E.var 0) (E.cons (E.b1 (B1.len) (E.var 1)) (E.nil))))))) (S.seq (S.par 6 7 (E.frz (E.call 15 (E.cons (E.var 0) (E.cons (E.var 1) (E.cons (E.cn (Cn.int 3)) (E.nil)))))) (E.frz (E.call 15 (E.cons (E.var 0) (E.cons (E.var 1) (E.cons (E.cn (Cn.int 3)) (E.nil))))))) (S.seq (S.ifS (E.cmp (CmpOp.Lt) (E.var 4) (E.cn (Cn.int 2))) (S.seq (S.par 6 7 (E.frz (E.call 16 (E.cons (E.var 1) (E.cons (E.var 5) (E.nil))))) (E.frz (E.call 16 (E.cons (E.var 1) (E.cons (E.bin (Operator.Sub) (E.bin (Operator.Add) (E.b1 (B1.len) (E.var 1)) (E.var 4)) (E.var 5)) (E.nil)))))) (S.seq (S.asg 7 (E.frz (E.ite (E.cmp (CmpOp.NotEq) (E.var 7) (E.tup (E.nil))) (E.var 7) (E.tup (E.cons (E.b1 (B1.tup) (E.var 1)) (E.nil)))))) (S.skip))) (S.skip)) (S.seq (S.ifS (E.cmp (CmpOp.Eq) (E.var 4) (E.cn (Cn.int 2))) (S.seq (S.asg 7 (E.frz (E.tup (E.cons (E.b1 (B1.tup) (E.var 1)) (E.nil))))) (S.skip)) (S.skip)) (S.seq (S.asg 8 (E.frz (E.ite (E.var 2) (E.call 17 (E.cons (E.var 0) (E.cons (E.var 1) (E.nil)))) (E.tup (E.nil))))) (S.seq (S.ret (E.tup (E.cons (E.ite (E.var 2) (E.cn (Cn.str { cps := #[112, 108, 97, 105, 110] })) (E.call 9 (E.cons (E.var 0) (E.cons (E.var 3) (E.nil))))) (E.cons (E.call 14 (E.cons (E.var 0) (E.cons (E.var 1) (E.nil)))) (E.cons (E.var 6) (E.cons (E.var 7) (E.cons (E.var 8) (E.nil)))))))) (S.skip)))))))
theorem c_law_kind : cSs 60 g_law_kind (defScope (topS 23)) (defBody (topS 23)) = some b_law_kind := by decide +kernel
theorem s_law_kind : FnScope g_law_kind.N ["deck", "rest", "is_joining", "sorts"] (defScope (topS 23)) := ⟨rfl, rfl, rfl, by decide +kernel, rfl, by decide +kernel, by decide +kernel⟩
abbrev g_law_plan_any : Ga := ⟨["deck", "sky", "is_joining", "sorts", "pages", "rung", "rest", "p"], fns, ["pages"], []⟩
def b_law_plan_any : S := (S.seq (S.asg 4 (E.lst (E.nil))) (S.seq (S.for (E.it (E.sl (E.b1 (B1.sorted) (E.call 13 (E.cons (E.ix (E.var 1) (E.cn (Cn.int 1))) (E.nil)))) (E.no) (E.yes (E.cn (Cn.int 8))))) (Tg.nm 5) (S.seq (S.asg 6 (E.frz (E.lc (Tg.nm 7) [7] (E.rng1 (E.ix (E.var 1) (E.cn (Cn.int 0)))) (E.yes (E.cmp (CmpOp.NotIn) (E.var 7) (E.var 5))) (E.var 7)))) (S.seq (S.ifS (E.and (E.cmp (CmpOp.NotEq) (E.var 6) (E.lst (E.nil))) (E.cmp (CmpOp.Gt) (E.call 8 (E.cons (E.var 0) (E.cons (E.cn (Cn.int 4)) (E.nil)))) (E.cn (Cn.int 0)))) (S.seq (S.app (E.var 4) (E.tup (E.cons (E.var 5) (E.cons (E.call 18 (E.cons (E.var 0) (E.cons (E.var 6) (E.cons (E.var 2) (E.cons (E.var 3) (E.nil)))))) (E.nil))))) (S.skip)) (S.skip)) (S.skip)))) (S.seq (S.ret (E.tup (E.cons (E.var 2) (E.cons (E.b1 (B1.tup) (E.var 4)) (E.nil))))) (S.skip))))
theorem c_law_plan_any : cSs 60 g_law_plan_any (defScope (topS 24)) (defBody (topS 24)) = some b_law_plan_any := by decide +kernel
theorem s_law_plan_any : FnScope g_law_plan_any.N ["deck", "sky", "is_joining", "sorts"] (defScope (topS 24)) := ⟨rfl, rfl, rfl, by decide +kernel, rfl, by decide +kernel, by decide +kernel⟩
abbrev g_law_has_lot : Ga := ⟨["family", "some", "lot"], fns, [], []⟩
def b_law_has_lot : S := (S.seq (S.ret (E.cmp (CmpOp.NotEq) (E.lc (Tg.nm 2) [2] (E.it (E.var 0)) (E.yes (E.call 12 (E.cons (E.var 2) (E.cons (E.var 1) (E.nil))))) (E.var 2)) (E.lst (E.nil)))) (S.skip))
theorem c_law_has_lot : cSs 60 g_law_has_lot (defScope (topS 25)) (defBody (topS 25)) = some b_law_has_lot := by decide +kernel
theorem s_law_has_lot : FnScope g_law_has_lot.N ["family", "some"] (defScope (topS 25)) := ⟨rfl, rfl, rfl, by decide +kernel, rfl, by decide +kernel, by decide +kernel⟩
abbrev g_law_ends_so : Ga := ⟨["world", "rung", "sharers", "sky", "plan", "manner", "t", "pages", "later", "kind", "storms", "lot", "blank", "gone", "own", "p"], fns, [], []⟩
def b_law_ends_so : S := (S.seq (S.asgT (Tg.tp (Tg.cons (Tg.nm 3) (Tg.cons (Tg.nm 4) (Tg.cons (Tg.nm 5) (Tg.cons (Tg.nm 6) (Tg.nil)))))) (E.var 0)) (S.seq (S.asg 7 (E.frz (E.b1 (B1.dict) (E.ix (E.var 4) (E.cn (Cn.int 1)))))) (S.seq (S.ifS (E.or (E.cmp (CmpOp.Eq) (E.var 5) (E.cn (Cn.str { cps := #[110, 101, 118, 101, 114] }))) (E.cmp (CmpOp.Eq) (E.var 5) (E.cn (Cn.str { cps := #[97, 108, 119, 97, 121, 115] })))) (S.seq (S.ret (E.cmp (CmpOp.Eq) (E.var 5) (E.cn (Cn.str { cps := #[110, 101, 118, 101, 114] })))) (S.skip)) (S.skip)) (S.seq (S.ifS (E.cmp (CmpOp.Eq) (E.var 5) (E.cn (Cn.str { cps := #[107, 101, 112, 116] }))) (S.seq (S.ret (E.call 20 (E.cons (E.ix (E.ix (E.var 7) (E.var 1)) (E.cn (Cn.int 3))) (E.cons (E.var 2) (E.nil))))) (S.skip)) (S.skip)) (S.seq (S.for (E.it (E.ix (E.var 4) (E.cn (Cn.int 1)))) (Tg.tp (Tg.cons (Tg.nm 8) (Tg.cons (Tg.nm 9) (Tg.nil)))) (S.seq (S.asg 10 (E.frz (E.lc (Tg.tp (Tg.cons (Tg.nm 13) (Tg.cons (Tg.nm 12) (Tg.nil)))) [13, 12] (E.it (E.ix (E.var 3) (E.cn (Cn.int 2)))) (E.yes (E.call 12 (E.cons (E.var 8) (E.cons (E.var 13) (E.nil))))) (E.var 12)))) (S.seq (S.for (E.it (E.lc (Tg.nm 14) [14] (E.it (E.ix (E.var 9) (E.cn (Cn.int 2)))) (E.yes (E.call 12 (E.cons (E.var 1) (E.cons (E.var 8) (E.nil))))) (E.var 14))) (Tg.nm 11) (S.seq (S.for (E.it (E.var 10)) (Tg.nm 12) (S.seq (S.ifS (E.cmp (CmpOp.Eq) (E.lc (Tg.nm 15) [15] (E.it (E.var 2)) (E.yes (E.and (E.cmp (CmpOp.In) (E.var 15) (E.var 11)) (E.cmp (CmpOp.NotIn) (E.var 15) (E.var 12)))) (E.var 15)) (E.lst (E.nil))) (S.seq (S.ret (E.cn (Cn.bl false))) (S.skip)) (S.skip)) (S.skip))) (S.skip))) (S.skip)))) (S.seq (S.ret (E.cn (Cn.bl true))) (S.skip)))))))
theorem c_law_ends_so : cSs 60 g_law_ends_so (defScope (topS 26)) (defBody (topS 26)) = some b_law_ends_so := by decide +kernel
theorem s_law_ends_so : FnScope g_law_ends_so.N ["world", "rung", "sharers"] (defScope (topS 26)) := ⟨rfl, rfl, rfl, by decide +kernel, rfl, by decide +kernel, by decide +kernel⟩
abbrev g_law_due : Ga := ⟨["world", "sky", "plan", "manner", "t", "rung", "kind", "keeps", "asks", "sharers", "p"], fns, [], []⟩
def b_law_due : S := (S.seq (S.asgT (Tg.tp (Tg.cons (Tg.nm 1) (Tg.cons (Tg.nm 2) (Tg.cons (Tg.nm 3) (Tg.cons (Tg.nm 4) (Tg.nil)))))) (E.var 0)) (S.seq (S.for (E.it (E.ix (E.var 2) (E.cn (Cn.int 1)))) (Tg.tp (Tg.cons (Tg.nm 5) (Tg.cons (Tg.nm 6) (Tg.nil)))) (S.seq (S.for (E.it (E.ix (E.var 6) (E.cn (Cn.int 3)))) (Tg.nm 7) (S.seq (S.for (E.it (E.ix (E.var 6) (E.cn (Cn.int 2)))) (Tg.nm 8) (S.seq (S.asg 9 (E.frz (E.lc (Tg.nm 10) [10] (E.it (E.var 7)) (E.yes (E.cmp (CmpOp.In) (E.var 10) (E.var 8))) (E.var 10)))) (S.seq (S.ifS (E.and (E.cmp (CmpOp.NotEq) (E.var 9) (E.lst (E.nil))) (E.not (E.call 21 (E.cons (E.var 0) (E.cons (E.var 5) (E.cons (E.var 9) (E.nil))))))) (S.seq (S.ret (E.tup (E.cons (E.var 5) (E.cons (E.var 7) (E.cons (E.var 8) (E.nil)))))) (S.skip)) (S.skip)) (S.skip)))) (S.skip))) (S.skip))) (S.seq (S.ret (E.cn (Cn.non))) (S.skip))))
theorem c_law_due : cSs 60 g_law_due (defScope (topS 27)) (defBody (topS 27)) = some b_law_due := by decide +kernel
theorem s_law_due : FnScope g_law_due.N ["world"] (defScope (topS 27)) := ⟨rfl, rfl, rfl, by decide +kernel, rfl, by decide +kernel, by decide +kernel⟩
abbrev g_law_is_torn : Ga := ⟨["sky", "plan", "gone", "blank", "top", "rung", "kind", "asks", "later", "own", "keeps", "p", "lot"], fns, ["asks"], []⟩
def b_law_is_torn : S := (S.seq (S.for (E.it (E.ix (E.var 0) (E.cn (Cn.int 2)))) (Tg.tp (Tg.cons (Tg.nm 2) (Tg.cons (Tg.nm 3) (Tg.nil)))) (S.seq (S.asg 4 (E.frz (E.lc (Tg.nm 11) [11] (E.it (E.var 2)) (E.yes (E.cmp (CmpOp.In) (E.var 11) (E.ix (E.var 0) (E.cn (Cn.int 1))))) (E.var 11)))) (S.seq (S.for (E.it (E.ix (E.var 1) (E.cn (Cn.int 1)))) (Tg.tp (Tg.cons (Tg.nm 5) (Tg.cons (Tg.nm 6) (Tg.nil)))) (S.seq (S.asg 7 (E.lst (E.nil))) (S.seq (S.for (E.it (E.ix (E.var 1) (E.cn (Cn.int 1)))) (Tg.tp (Tg.cons (Tg.nm 8) (Tg.cons (Tg.nm 9) (Tg.nil)))) (S.seq (S.ext (E.var 7) (E.ite (E.and (E.call 12 (E.cons (E.var 5) (E.cons (E.var 8) (E.nil)))) (E.call 12 (E.cons (E.var 8) (E.cons (E.var 4) (E.nil))))) (E.ix (E.var 9) (E.cn (Cn.int 2))) (E.tup (E.nil)))) (S.skip))) (S.seq (S.for (E.it (E.lc (Tg.nm 12) [12] (E.it (E.ix (E.var 6) (E.cn (Cn.int 3)))) (E.yes (E.call 12 (E.cons (E.var 5) (E.cons (E.var 4) (E.nil))))) (E.var 12))) (Tg.nm 10) (S.seq (S.ifS (E.cmp (CmpOp.NotEq) (E.lc (Tg.nm 12) [12] (E.it (E.var 7)) (E.yes (E.call 12 (E.cons (E.lc (Tg.nm 11) [11] (E.it (E.var 10)) (E.yes (E.cmp (CmpOp.In) (E.var 11) (E.var 12))) (E.var 11)) (E.cons (E.var 3) (E.nil))))) (E.var 12)) (E.lst (E.nil))) (S.seq (S.ret (E.cn (Cn.bl true))) (S.skip)) (S.skip)) (S.skip))) (S.skip))))) (S.skip)))) (S.seq (S.ret (E.cn (Cn.bl false))) (S.skip)))
theorem c_law_is_torn : cSs 60 g_law_is_torn (defScope (topS 28)) (defBody (topS 28)) = some b_law_is_torn := by decide +kernel
theorem s_law_is_torn : FnScope g_law_is_torn.N ["sky", "plan"] (defScope (topS 28)) := ⟨rfl, rfl, rfl, by decide +kernel, rfl, by decide +kernel, by decide +kernel⟩
abbrev g_law : Ga := ⟨["script", "deck", "turn", "sky", "is_joining", "plan", "kept", "told", "manner"], fns, ["told"], ["deck"]⟩
def b_law : S := (S.seq (S.asg 1 (E.shr (E.call 7 (E.cons (E.var 0) (E.nil))))) (S.seq (S.for (E.rng1 (E.cn (Cn.int 4))) (Tg.nm 2) (S.seq (S.par 3 4 (E.frz (E.call 11 (E.cons (E.var 1) (E.cons (E.ite (E.cmp (CmpOp.Eq) (E.var 2) (E.cn (Cn.int 0))) (E.cn (Cn.int 5)) (E.cn (Cn.int 4))) (E.nil))))) (E.frz (E.cmp (CmpOp.Eq) (E.call 8 (E.cons (E.var 1) (E.cons (E.cn (Cn.int 3)) (E.nil)))) (E.cn (Cn.int 0))))) (S.seq (S.asg 5 (E.frz (E.call 19 (E.cons (E.var 1) (E.cons (E.var 3) (E.cons (E.var 4) (E.cons (E.lst (E.cons (E.cn (Cn.str { cps := #[112, 108, 97, 105, 110] })) (E.cons (E.cn (Cn.str { cps := #[102, 114, 101, 101] })) (E.nil)))) (E.nil)))))))) (S.seq (S.asg 6 (E.frz (E.b1 (B1.repr) (E.lst (E.cons (E.var 3) (E.cons (E.var 5) (E.nil))))))) (S.seq (S.asg 7 (E.dnew)) (S.seq (S.for (E.it (E.bin (Operator.Add) (E.lst (E.cons (E.cn (Cn.str { cps := #[97, 108, 119, 97, 121, 115] })) (E.cons (E.cn (Cn.str { cps := #[107, 101, 112, 116] })) (E.nil)))) (E.bin (Operator.Mult) (E.lst (E.cons (E.cn (Cn.str { cps := #[115, 117, 114, 101] })) (E.cons (E.cn (Cn.str { cps := #[110, 101, 118, 101, 114] })) (E.nil)))) (E.b1 (B1.int) (E.not (E.var 4)))))) (Tg.nm 8) (S.seq (S.put (E.var 7) (E.var 8) (E.call 6 (E.cons (E.var 3) (E.cons (E.var 5) (E.cons (E.var 8) (E.nil)))))) (S.seq (S.ifS (E.cmp (CmpOp.NotEq) (E.b1 (B1.repr) (E.ix (E.var 7) (E.var 8))) (E.b1 (B1.repr) (E.call 22 (E.cons (E.tup (E.cons (E.var 3) (E.cons (E.var 5) (E.cons (E.var 8) (E.cons (E.cn (Cn.int 0)) (E.nil)))))) (E.nil))))) (S.seq (S.ret (E.cn (Cn.bl false))) (S.skip)) (S.skip)) (S.skip)))) (S.seq (S.ifS (E.and (E.not (E.var 4)) (E.and (E.cmp (CmpOp.Is) (E.ix (E.var 7) (E.cn (Cn.str { cps := #[107, 101, 112, 116] }))) (E.cn (Cn.non))) (E.and (E.cmp (CmpOp.IsNot) (E.ix (E.var 7) (E.cn (Cn.str { cps := #[115, 117, 114, 101] }))) (E.cn (Cn.non))) (E.not (E.call 23 (E.cons (E.var 3) (E.cons (E.var 5) (E.nil)))))))) (S.seq (S.ret (E.cn (Cn.bl false))) (S.skip)) (S.skip)) (S.seq (S.ifS (E.cmp (CmpOp.NotEq) (E.b1 (B1.repr) (E.lst (E.cons (E.var 3) (E.cons (E.var 5) (E.nil))))) (E.var 6)) (S.seq (S.ret (E.cn (Cn.bl false))) (S.skip)) (S.skip)) (S.skip))))))))) (S.seq (S.ret (E.cn (Cn.bl true))) (S.skip))))
theorem c_law : cSs 60 g_law (defScope (topS 29)) (defBody (topS 29)) = some b_law := by decide +kernel
theorem s_law : FnScope g_law.N ["script"] (defScope (topS 29)) := ⟨rfl, rfl, rfl, by decide +kernel, rfl, by decide +kernel, by decide +kernel⟩
def T : List Fd := [⟨2, 3, b_is_within⟩, ⟨2, 3, b_common⟩, ⟨2, 3, b_without⟩, ⟨2, 4, b_page⟩, ⟨3, 9, b_left_later⟩, ⟨5, 7, b_has_to_be⟩, ⟨3, 9, b_at_once⟩, ⟨1, 4, b_law_deck⟩, ⟨2, 4, b_law_draw⟩, ⟨2, 2, b_law_pick⟩, ⟨3, 4, b_law_part⟩, ⟨2, 7, b_law_sky⟩, ⟨2, 3, b_law_is_in⟩, ⟨1, 4, b_law_subsets⟩, ⟨2, 3, b_law_lot⟩, ⟨3, 5, b_law_family⟩, ⟨2, 3, b_law_sized⟩, ⟨2, 7, b_law_joins⟩, ⟨4, 9, b_law_kind⟩, ⟨4, 8, b_law_plan_any⟩, ⟨2, 3, b_law_has_lot⟩, ⟨3, 16, b_law_ends_so⟩, ⟨1, 11, b_law_due⟩, ⟨2, 13, b_law_is_torn⟩, ⟨1, 9, b_law⟩]
theorem all_mk {P : Program} {w : World} {K : PySem.W.Frag} {h : Heap} {mg : Str → Option Value} {fa : Addr} (X : K.In h) (G : h.Ns mainGlobals mg) (hfa : mg "law" = some (.ref fa)) (f0 : FnFact K "is_within" (topS 1)) (f1 : FnFact K "common" (topS 2)) (f2 : FnFact K "without" (topS 3)) (f3 : FnFact K "page" (topS 5)) (f4 : FnFact K "left_later" (topS 7)) (f5 : FnFact K "has_to_be" (topS 8)) (f6 : FnFact K "at_once" (topS 10)) (f7 : FnFact K "_law_deck" (topS 12)) (f8 : FnFact K "_law_draw" (topS 13)) (f9 : FnFact K "_law_pick" (topS 14)) (f10 : FnFact K "_law_part" (topS 15)) (f11 : FnFact K "_law_sky" (topS 16)) (f12 : FnFact K "_law_is_in" (topS 17)) (f13 : FnFact K "_law_subsets" (topS 18)) (f14 : FnFact K "_law_lot" (topS 19)) (f15 : FnFact K "_law_family" (topS 20)) (f16 : FnFact K "_law_sized" (topS 21)) (f17 : FnFact K "_law_joins" (topS 22)) (f18 : FnFact K "_law_kind" (topS 23)) (f19 : FnFact K "_law_plan_any" (topS 24)) (f20 : FnFact K "_law_has_lot" (topS 25)) (f21 : FnFact K "_law_ends_so" (topS 26)) (f22 : FnFact K "_law_due" (topS 27)) (f23 : FnFact K "_law_is_torn" (topS 28)) (f24 : FnFact K "law" (topS 29)) (z0 : PySem.W.nsIn K mainGlobals "len" = some none) (z1 : PySem.W.nsIn K mainGlobals "abs" = some none) (z2 : PySem.W.nsIn K mainGlobals "int" = some none) (z3 : PySem.W.nsIn K mainGlobals "all" = some none) (z4 : PySem.W.nsIn K mainGlobals "any" = some none) (z5 : PySem.W.nsIn K mainGlobals "sum" = some none) (z6 : PySem.W.nsIn K mainGlobals "tuple" = some none) (z7 : PySem.W.nsIn K mainGlobals "list" = some none) (z8 : PySem.W.nsIn K mainGlobals "sorted" = some none) (z9 : PySem.W.nsIn K mainGlobals "dict" = some none) (z10 : PySem.W.nsIn K mainGlobals "repr" = some none) (z11 : PySem.W.nsIn K mainGlobals "range" = some none) :
    ∃ fd : FuncData, (∀ (s : Shared) (u : Value), BindsTo s fd ⟨[u], []⟩ [("script", u)]) ∧ ∀ base : Heap, K.In base → base.Ns mainGlobals mg → FnG P w K mg base 12 fa fd ["script"] (spF P w K (callN T 12 24)) := by
  have hall : ∀ j x, fns[j]? = some x → OkF K mg T fns j x := fun j x e => match j, e with
    | 0, e => by cases e; exact okf_mk (ps := ["one", "other"]) X G f0 s_is_within rfl (fun _ _ _ _ _ _ us hl => match us, hl with | [_, _], _ => rfl) c_is_within rfl
    | 1, e => by cases e; exact okf_mk (ps := ["one", "other"]) X G f1 s_common rfl (fun _ _ _ _ _ _ us hl => match us, hl with | [_, _], _ => rfl) c_common rfl
    | 2, e => by cases e; exact okf_mk (ps := ["one", "other"]) X G f2 s_without rfl (fun _ _ _ _ _ _ us hl => match us, hl with | [_, _], _ => rfl) c_without rfl
    | 3, e => by cases e; exact okf_mk (ps := ["plan", "rung"]) X G f3 s_page rfl (fun _ _ _ _ _ _ us hl => match us, hl with | [_, _], _ => rfl) c_page rfl
    | 4, e => by cases e; exact okf_mk (ps := ["sky", "plan", "rung"]) X G f4 s_left_later rfl (fun _ _ _ _ _ _ us hl => match us, hl with | [_, _, _], _ => rfl) c_left_later rfl
    | 5, e => by cases e; exact okf_mk (ps := ["plan", "manner", "rung", "some", "later"]) X G f5 s_has_to_be rfl (fun _ _ _ _ _ _ us hl => match us, hl with | [_, _, _, _, _], _ => rfl) c_has_to_be rfl
    | 6, e => by cases e; exact okf_mk (ps := ["sky", "plan", "manner"]) X G f6 s_at_once rfl (fun _ _ _ _ _ _ us hl => match us, hl with | [_, _, _], _ => rfl) c_at_once rfl
    | 7, e => by cases e; exact okf_mk (ps := ["script"]) X G f7 s_law_deck rfl (fun _ _ _ _ _ _ us hl => match us, hl with | [_], _ => rfl) c_law_deck rfl
    | 8, e => by cases e; exact okf_mk (ps := ["deck", "many"]) X G f8 s_law_draw rfl (fun _ _ _ _ _ _ us hl => match us, hl with | [_, _], _ => rfl) c_law_draw rfl
    | 9, e => by cases e; exact okf_mk (ps := ["deck", "row"]) X G f9 s_law_pick rfl (fun _ _ _ _ _ _ us hl => match us, hl with | [_, _], _ => rfl) c_law_pick rfl
    | 10, e => by cases e; exact okf_mk (ps := ["deck", "items", "of"]) X G f10 s_law_part rfl (fun _ _ _ _ _ _ us hl => match us, hl with | [_, _, _], _ => rfl) c_law_part rfl
    | 11, e => by cases e; exact okf_mk (ps := ["deck", "most"]) X G f11 s_law_sky rfl (fun _ _ _ _ _ _ us hl => match us, hl with | [_, _], _ => rfl) c_law_sky rfl
    | 12, e => by cases e; exact okf_mk (ps := ["some", "others"]) X G f12 s_law_is_in rfl (fun _ _ _ _ _ _ us hl => match us, hl with | [_, _], _ => rfl) c_law_is_in rfl
    | 13, e => by cases e; exact okf_mk (ps := ["items"]) X G f13 s_law_subsets rfl (fun _ _ _ _ _ _ us hl => match us, hl with | [_], _ => rfl) c_law_subsets rfl
    | 14, e => by cases e; exact okf_mk (ps := ["deck", "rest"]) X G f14 s_law_lot rfl (fun _ _ _ _ _ _ us hl => match us, hl with | [_, _], _ => rfl) c_law_lot rfl
    | 15, e => by cases e; exact okf_mk (ps := ["deck", "rest", "most"]) X G f15 s_law_family rfl (fun _ _ _ _ _ _ us hl => match us, hl with | [_, _, _], _ => rfl) c_law_family rfl
    | 16, e => by cases e; exact okf_mk (ps := ["rest", "size"]) X G f16 s_law_sized rfl (fun _ _ _ _ _ _ us hl => match us, hl with | [_, _], _ => rfl) c_law_sized rfl
    | 17, e => by cases e; exact okf_mk (ps := ["deck", "rest"]) X G f17 s_law_joins rfl (fun _ _ _ _ _ _ us hl => match us, hl with | [_, _], _ => rfl) c_law_joins rfl
    | 18, e => by cases e; exact okf_mk (ps := ["deck", "rest", "is_joining", "sorts"]) X G f18 s_law_kind rfl (fun _ _ _ _ _ _ us hl => match us, hl with | [_, _, _, _], _ => rfl) c_law_kind rfl
    | 19, e => by cases e; exact okf_mk (ps := ["deck", "sky", "is_joining", "sorts"]) X G f19 s_law_plan_any rfl (fun _ _ _ _ _ _ us hl => match us, hl with | [_, _, _, _], _ => rfl) c_law_plan_any rfl
    | 20, e => by cases e; exact okf_mk (ps := ["family", "some"]) X G f20 s_law_has_lot rfl (fun _ _ _ _ _ _ us hl => match us, hl with | [_, _], _ => rfl) c_law_has_lot rfl
    | 21, e => by cases e; exact okf_mk (ps := ["world", "rung", "sharers"]) X G f21 s_law_ends_so rfl (fun _ _ _ _ _ _ us hl => match us, hl with | [_, _, _], _ => rfl) c_law_ends_so rfl
    | 22, e => by cases e; exact okf_mk (ps := ["world"]) X G f22 s_law_due rfl (fun _ _ _ _ _ _ us hl => match us, hl with | [_], _ => rfl) c_law_due rfl
    | 23, e => by cases e; exact okf_mk (ps := ["sky", "plan"]) X G f23 s_law_is_torn rfl (fun _ _ _ _ _ _ us hl => match us, hl with | [_, _], _ => rfl) c_law_is_torn rfl
    | 24, e => by cases e; exact okf_mk (ps := ["script"]) X G f24 s_law rfl (fun _ _ _ _ _ _ us hl => match us, hl with | [_], _ => rfl) c_law rfl
    | _ + 25, e => by simp [fns] at e
  have hblt := blt_mk (fun x hx => PySem.W.mg_none_of X G hx) z0 z1 z2 z3 z4 z5 z6 z7 z8 z9 z10 z11
  exact law_mk (k := 11) (j := 24) (p := "script") X G hall hblt hfa f24 s_law rfl (fun _ _ _ _ _ _ us hl => match us, hl with | [_], _ => rfl) c_law rfl
end U.k83
namespace U.k83
open PySem PySem.Spec PyProof.Rows L2 U
/-! ### the data of the law -/
structure Kd where
  sort : Str
  hands : List Int
  asks : List (List Int)
  keeps : List (List Int)
  joins : List (List Int × List Int)
abbrev eP (p : List Int × List Int) : D := .tup [tI p.1, tI p.2]
abbrev eK (k : Kd) : D := .tup [.str k.sort, tI k.hands, .tup (k.asks.map tI), .tup (k.keeps.map tI), .tup (k.joins.map eP)]
abbrev Pg := List Int × Kd
abbrev ePg (p : Pg) : D := .tup [tI p.1, eK p.2]
abbrev ePl (b : Bool) (pages : List Pg) : D := .tup [.bl b, .tup (pages.map ePg)]
abbrev eSky (many : Int) (bells : List Int) (storms : List (List Int × List Int)) : D := .tup [.int many, tI bells, .tup (storms.map eP)]
theorem atI0 {α : Type} (a : α) (r : List α) : atI (a :: r) 0 = some a := atI_nat (j := 0) rfl
theorem atI1 {α : Type} (a b : α) (r : List α) : atI (a :: b :: r) 1 = some b := atI_nat (j := 1) rfl
theorem atI2 {α : Type} (a b c : α) (r : List α) : atI (a :: b :: c :: r) 2 = some c := atI_nat (j := 2) rfl
theorem atI3 {α : Type} (a b c d : α) (r : List α) : atI (a :: b :: c :: d :: r) 3 = some d := atI_nat (j := 3) rfl
def inner : S → S
  | .seq (.for _ _ b) _ => b
  | .seq _ (.seq (.for _ _ b) _) => b
  | _ => .skip
theorem is_within_t {k : Nat} {xs ys : List Int} {ah : AH} (h : xs.length ≤ big) : callN T (k + 1) 0 [tI xs, tI ys] ah = some (.v (.bl (xs.all fun x => decide (x ∈ ys))), ah) := by
  rw [callN_at (fd := ⟨2, 3, b_is_within⟩) rfl rfl]
  have e := ev_lc D.int (G := callN T k) (t := .nm 2) (vs := [2]) (w := .it (.var 0)) (c := .no) (e := .cmp .In (.var 2) (.var 1)) (env := [.va (tI xs), .va (tI ys), .un]) (ah := ah) (gu := none) (fun _ => true) (fun x => .bl (decide (x ∈ ys))) (xs := xs) rfl (by simp [tgIn, noOw, isOw, h])
    (fun x hx => ⟨[.va (tI xs), .va (tI ys), .va (.int x)], rfl, rfl, fun _ => by simp [runF, S.sem, fSeq, fIf, fRet, fRetN, fSkip, fDrop, fAsg, fAsgT, fPar, fPar3, asgRw, fFor, fMut, fPut, fUpd, E.v, E.a, E.i, E.o, E.c, sVar, sCon, sTup, sLst, aNil, aCons, vl, vv, sOp1, sOp2, sB, bE, bNot, bAnd, bOr, sAnd, sOr, sIte, sChn, sSl, oNone, oSome, sCall, sPop, sDnew, sDisp, sLrg, sShr, iOf, iRan1, iRan2, bYes, Cn.d, B1.sem, rr_tup, rr_lst, rr_scr, rr_dct, rr_int, rr_str, rr_bl, rr_non, rr_ref, rr_f, rr_o, Rw.val, binD, cmpR, cmpD, ofB, List.replicate, inD_tI]⟩)
  simp [runF, S.sem, fSeq, fIf, fRet, fRetN, fSkip, fDrop, fAsg, fAsgT, fPar, fPar3, asgRw, fFor, fMut, fPut, fUpd, E.v, E.a, E.i, E.o, E.c, sVar, sCon, sTup, sLst, aNil, aCons, vl, vv, sOp1, sOp2, sB, bE, bNot, bAnd, bOr, sAnd, sOr, sIte, sChn, sSl, oNone, oSome, sCall, sPop, sDnew, sDisp, sLrg, sShr, iOf, iRan1, iRan2, bYes, Cn.d, B1.sem, rr_tup, rr_lst, rr_scr, rr_dct, rr_int, rr_str, rr_bl, rr_non, rr_ref, rr_f, rr_o, Rw.val, binD, cmpR, cmpD, ofB, List.replicate, b_is_within, allD]
  simp [E.v, E.a, E.i, E.o, E.c, Cn.d, B1.sem] at e
  rw [e]
  simp [runF, S.sem, fSeq, fIf, fRet, fRetN, fSkip, fDrop, fAsg, fAsgT, fPar, fPar3, asgRw, fFor, fMut, fPut, fUpd, E.v, E.a, E.i, E.o, E.c, sVar, sCon, sTup, sLst, aNil, aCons, vl, vv, sOp1, sOp2, sB, bE, bNot, bAnd, bOr, sAnd, sOr, sIte, sChn, sSl, oNone, oSome, sCall, sPop, sDnew, sDisp, sLrg, sShr, iOf, iRan1, iRan2, bYes, Cn.d, B1.sem, rr_tup, rr_lst, rr_scr, rr_dct, rr_int, rr_str, rr_bl, rr_non, rr_ref, rr_f, rr_o, Rw.val, binD, cmpR, cmpD, ofB, List.replicate, bools_map, allD]
theorem common_t {k : Nat} {xs ys : List Int} {ah : AH} (h : xs.length ≤ big) : callN T (k + 1) 1 [tI xs, tI ys] ah = some (.v (tI (xs.filter fun x => decide (x ∈ ys))), ah) := by
  rw [callN_at (fd := ⟨2, 3, b_common⟩) rfl rfl]
  have e := ev_lc D.int (G := callN T k) (t := .nm 2) (vs := [2]) (w := .it (.var 0)) (c := .yes (.cmp .In (.var 2) (.var 1))) (e := .var 2) (env := [.va (tI xs), .va (tI ys), .un]) (ah := ah) (gu := none) (fun x => decide (x ∈ ys)) D.int (xs := xs) rfl (by simp [tgIn, noOw, isOw, h])
    (fun x hx => ⟨[.va (tI xs), .va (tI ys), .va (.int x)], rfl, by simp [runF, S.sem, fSeq, fIf, fRet, fRetN, fSkip, fDrop, fAsg, fAsgT, fPar, fPar3, asgRw, fFor, fMut, fPut, fUpd, E.v, E.a, E.i, E.o, E.c, sVar, sCon, sTup, sLst, aNil, aCons, vl, vv, sOp1, sOp2, sB, bE, bNot, bAnd, bOr, sAnd, sOr, sIte, sChn, sSl, oNone, oSome, sCall, sPop, sDnew, sDisp, sLrg, sShr, iOf, iRan1, iRan2, bYes, Cn.d, B1.sem, rr_tup, rr_lst, rr_scr, rr_dct, rr_int, rr_str, rr_bl, rr_non, rr_ref, rr_f, rr_o, Rw.val, binD, cmpR, cmpD, ofB, List.replicate, inD_tI], fun _ => by simp [runF, S.sem, fSeq, fIf, fRet, fRetN, fSkip, fDrop, fAsg, fAsgT, fPar, fPar3, asgRw, fFor, fMut, fPut, fUpd, E.v, E.a, E.i, E.o, E.c, sVar, sCon, sTup, sLst, aNil, aCons, vl, vv, sOp1, sOp2, sB, bE, bNot, bAnd, bOr, sAnd, sOr, sIte, sChn, sSl, oNone, oSome, sCall, sPop, sDnew, sDisp, sLrg, sShr, iOf, iRan1, iRan2, bYes, Cn.d, B1.sem, rr_tup, rr_lst, rr_scr, rr_dct, rr_int, rr_str, rr_bl, rr_non, rr_ref, rr_f, rr_o, Rw.val, binD, cmpR, cmpD, ofB, List.replicate]⟩)
  simp [runF, S.sem, fSeq, fIf, fRet, fRetN, fSkip, fDrop, fAsg, fAsgT, fPar, fPar3, asgRw, fFor, fMut, fPut, fUpd, E.v, E.a, E.i, E.o, E.c, sVar, sCon, sTup, sLst, aNil, aCons, vl, vv, sOp1, sOp2, sB, bE, bNot, bAnd, bOr, sAnd, sOr, sIte, sChn, sSl, oNone, oSome, sCall, sPop, sDnew, sDisp, sLrg, sShr, iOf, iRan1, iRan2, bYes, Cn.d, B1.sem, rr_tup, rr_lst, rr_scr, rr_dct, rr_int, rr_str, rr_bl, rr_non, rr_ref, rr_f, rr_o, Rw.val, binD, cmpR, cmpD, ofB, List.replicate, b_common, tupD]
  simp [E.v, E.a, E.i, E.o, E.c, Cn.d, B1.sem] at e
  rw [e]
  simp [runF, S.sem, fSeq, fIf, fRet, fRetN, fSkip, fDrop, fAsg, fAsgT, fPar, fPar3, asgRw, fFor, fMut, fPut, fUpd, E.v, E.a, E.i, E.o, E.c, sVar, sCon, sTup, sLst, aNil, aCons, vl, vv, sOp1, sOp2, sB, bE, bNot, bAnd, bOr, sAnd, sOr, sIte, sChn, sSl, oNone, oSome, sCall, sPop, sDnew, sDisp, sLrg, sShr, iOf, iRan1, iRan2, bYes, Cn.d, B1.sem, rr_tup, rr_lst, rr_scr, rr_dct, rr_int, rr_str, rr_bl, rr_non, rr_ref, rr_f, rr_o, Rw.val, binD, cmpR, cmpD, ofB, List.replicate, tupD]
theorem without_t {k : Nat} {xs ys : List Int} {ah : AH} (h : xs.length ≤ big) : callN T (k + 1) 2 [tI xs, tI ys] ah = some (.v (tI (xs.filter fun x => !decide (x ∈ ys))), ah) := by
  rw [callN_at (fd := ⟨2, 3, b_without⟩) rfl rfl]
  have e := ev_lc D.int (G := callN T k) (t := .nm 2) (vs := [2]) (w := .it (.var 0)) (c := .yes (.cmp .NotIn (.var 2) (.var 1))) (e := .var 2) (env := [.va (tI xs), .va (tI ys), .un]) (ah := ah) (gu := none) (fun x => !decide (x ∈ ys)) D.int (xs := xs) rfl (by simp [tgIn, noOw, isOw, h])
    (fun x hx => ⟨[.va (tI xs), .va (tI ys), .va (.int x)], rfl, by simp [runF, S.sem, fSeq, fIf, fRet, fRetN, fSkip, fDrop, fAsg, fAsgT, fPar, fPar3, asgRw, fFor, fMut, fPut, fUpd, E.v, E.a, E.i, E.o, E.c, sVar, sCon, sTup, sLst, aNil, aCons, vl, vv, sOp1, sOp2, sB, bE, bNot, bAnd, bOr, sAnd, sOr, sIte, sChn, sSl, oNone, oSome, sCall, sPop, sDnew, sDisp, sLrg, sShr, iOf, iRan1, iRan2, bYes, Cn.d, B1.sem, rr_tup, rr_lst, rr_scr, rr_dct, rr_int, rr_str, rr_bl, rr_non, rr_ref, rr_f, rr_o, Rw.val, binD, cmpR, cmpD, ofB, List.replicate, inD_tI], fun _ => by simp [runF, S.sem, fSeq, fIf, fRet, fRetN, fSkip, fDrop, fAsg, fAsgT, fPar, fPar3, asgRw, fFor, fMut, fPut, fUpd, E.v, E.a, E.i, E.o, E.c, sVar, sCon, sTup, sLst, aNil, aCons, vl, vv, sOp1, sOp2, sB, bE, bNot, bAnd, bOr, sAnd, sOr, sIte, sChn, sSl, oNone, oSome, sCall, sPop, sDnew, sDisp, sLrg, sShr, iOf, iRan1, iRan2, bYes, Cn.d, B1.sem, rr_tup, rr_lst, rr_scr, rr_dct, rr_int, rr_str, rr_bl, rr_non, rr_ref, rr_f, rr_o, Rw.val, binD, cmpR, cmpD, ofB, List.replicate]⟩)
  simp [runF, S.sem, fSeq, fIf, fRet, fRetN, fSkip, fDrop, fAsg, fAsgT, fPar, fPar3, asgRw, fFor, fMut, fPut, fUpd, E.v, E.a, E.i, E.o, E.c, sVar, sCon, sTup, sLst, aNil, aCons, vl, vv, sOp1, sOp2, sB, bE, bNot, bAnd, bOr, sAnd, sOr, sIte, sChn, sSl, oNone, oSome, sCall, sPop, sDnew, sDisp, sLrg, sShr, iOf, iRan1, iRan2, bYes, Cn.d, B1.sem, rr_tup, rr_lst, rr_scr, rr_dct, rr_int, rr_str, rr_bl, rr_non, rr_ref, rr_f, rr_o, Rw.val, binD, cmpR, cmpD, ofB, List.replicate, b_without, tupD]
  simp [E.v, E.a, E.i, E.o, E.c, Cn.d, B1.sem] at e
  rw [e]
  simp [runF, S.sem, fSeq, fIf, fRet, fRetN, fSkip, fDrop, fAsg, fAsgT, fPar, fPar3, asgRw, fFor, fMut, fPut, fUpd, E.v, E.a, E.i, E.o, E.c, sVar, sCon, sTup, sLst, aNil, aCons, vl, vv, sOp1, sOp2, sB, bE, bNot, bAnd, bOr, sAnd, sOr, sIte, sChn, sSl, oNone, oSome, sCall, sPop, sDnew, sDisp, sLrg, sShr, iOf, iRan1, iRan2, bYes, Cn.d, B1.sem, rr_tup, rr_lst, rr_scr, rr_dct, rr_int, rr_str, rr_bl, rr_non, rr_ref, rr_f, rr_o, Rw.val, binD, cmpR, cmpD, ofB, List.replicate, tupD]
theorem page_t {k : Nat} {b : Bool} {pages : List Pg} {rung : List Int} {ah : AH} : callN T (k + 1) 3 [ePl b pages, tI rung] ah = some (match pages.findSome? (fun p => if p.1 = rung then some (Rw.v (eK p.2)) else none) with | some r => r | none => .v .non, ah) := by
  rw [callN_at (fd := ⟨2, 4, b_page⟩) rfl rfl]
  have e := for_find (G := Unit) ePg (t := .tp (.cons (.nm 2) (.cons (.nm 3) .nil))) (f := (inner b_page).sem (callN T k)) (ah := ah) (fun env => ∃ x y, env = [.va (ePl b pages), .va (tI rung), x, y]) (fun p => if p.1 = rung then some (Rw.v (eK p.2)) else none) (xs := pages) (env := [.va (ePl b pages), .va (tI rung), .un, .un]) ⟨_, _, rfl⟩
    (fun p hp env ⟨x, y, he⟩ => by
      subst he
      refine ⟨[.va (ePl b pages), .va (tI rung), .va (tI p.1), .va (eK p.2)], rfl, ?_⟩
      by_cases h : p.1 = rung
      · rw [if_pos h]
        simp [runF, S.sem, fSeq, fIf, fRet, fRetN, fSkip, fDrop, fAsg, fAsgT, fPar, fPar3, asgRw, fFor, fMut, fPut, fUpd, E.v, E.a, E.i, E.o, E.c, sVar, sCon, sTup, sLst, aNil, aCons, vl, vv, sOp1, sOp2, sB, bE, bNot, bAnd, bOr, sAnd, sOr, sIte, sChn, sSl, oNone, oSome, sCall, sPop, sDnew, sDisp, sLrg, sShr, iOf, iRan1, iRan2, bYes, Cn.d, B1.sem, rr_tup, rr_lst, rr_scr, rr_dct, rr_int, rr_str, rr_bl, rr_non, rr_ref, rr_f, rr_o, Rw.val, binD, cmpR, cmpD, ofB, List.replicate, inner, b_page, eqD_tI, h]
      · rw [if_neg h]
        exact ⟨[.va (ePl b pages), .va (tI rung), .va (tI p.1), .va (eK p.2)], by simp [runF, S.sem, fSeq, fIf, fRet, fRetN, fSkip, fDrop, fAsg, fAsgT, fPar, fPar3, asgRw, fFor, fMut, fPut, fUpd, E.v, E.a, E.i, E.o, E.c, sVar, sCon, sTup, sLst, aNil, aCons, vl, vv, sOp1, sOp2, sB, bE, bNot, bAnd, bOr, sAnd, sOr, sIte, sChn, sSl, oNone, oSome, sCall, sPop, sDnew, sDisp, sLrg, sShr, iOf, iRan1, iRan2, bYes, Cn.d, B1.sem, rr_tup, rr_lst, rr_scr, rr_dct, rr_int, rr_str, rr_bl, rr_non, rr_ref, rr_f, rr_o, Rw.val, binD, cmpR, cmpD, ofB, List.replicate, inner, b_page, eqD_tI, h], _, _, rfl⟩)
  simp [runF, S.sem, fSeq, fIf, fRet, fRetN, fSkip, fDrop, fAsg, fAsgT, fPar, fPar3, asgRw, fFor, fMut, fPut, fUpd, E.v, E.a, E.i, E.o, E.c, sVar, sCon, sTup, sLst, aNil, aCons, vl, vv, sOp1, sOp2, sB, bE, bNot, bAnd, bOr, sAnd, sOr, sIte, sChn, sSl, oNone, oSome, sCall, sPop, sDnew, sDisp, sLrg, sShr, iOf, iRan1, iRan2, bYes, Cn.d, B1.sem, rr_tup, rr_lst, rr_scr, rr_dct, rr_int, rr_str, rr_bl, rr_non, rr_ref, rr_f, rr_o, Rw.val, binD, cmpR, cmpD, ofB, List.replicate, b_page, inner, atI1, ixD] at e ⊢
  cases hf : pages.findSome? (fun p => if p.1 = rung then some (Rw.v (eK p.2)) else none) with
  | some r =>
    rw [hf] at e
    simp only at e
    rw [e]
    rfl
  | none =>
    rw [hf] at e
    obtain ⟨env', e1, _⟩ := e
    rw [e1]
    rfl
/- a row as a tuple or as a list -/
def sq (b : Bool) (xs : List Int) : D := if b then tI xs else .lst (xs.map .int)
def sub (xs ys : List Int) : Bool := xs.all fun x => decide (x ∈ ys)
theorem inD_sq {b : Bool} {x : Int} {ys : List Int} : inD (.int x) (sq b ys) = some (decide (x ∈ ys)) := by
  cases b
  · exact inD_lI x ys
  · exact inD_tI x ys
theorem sq_it {b : Bool} {xs : List Int} {G : Nat → FG} {i : Nat} {env : Ev} {ah : AH} (h : env[i]? = some (.va (sq b xs))) : E.i G (.it (.var i)) env ah = some ((xs.map .int, none), ah) := by
  cases b <;> simp [runF, S.sem, fSeq, fIf, fRet, fRetN, fSkip, fDrop, fAsg, fAsgT, fPar, fPar3, asgRw, fFor, fMut, fPut, fUpd, E.v, E.a, E.i, E.o, E.c, sVar, sCon, sTup, sLst, aNil, aCons, vl, vv, sOp1, sOp2, sB, bE, bNot, bAnd, bOr, sAnd, sOr, sIte, sChn, sSl, oNone, oSome, sCall, sPop, sDnew, sDisp, sLrg, sShr, iOf, iRan1, iRan2, bYes, Cn.d, B1.sem, rr_tup, rr_lst, rr_scr, rr_dct, rr_int, rr_str, rr_bl, rr_non, rr_ref, rr_f, rr_o, Rw.val, binD, cmpR, cmpD, ofB, List.replicate, h, sq]
theorem sq_rd {b : Bool} {xs : List Int} {env : Ev} {ah : AH} : Rw.rd env ah (.v (sq b xs)) = some (sq b xs) := by cases b <;> rfl
theorem sub_filter (xs ys : List Int) : (xs.filter fun x => !decide (x ∈ ys)).isEmpty = sub xs ys := by
  unfold sub
  induction xs with
  | nil => rfl
  | cons x xs ih =>
    rw [List.filter_cons, List.all_cons, ← ih]
    by_cases h : x ∈ ys <;> simp [h]
theorem is_in_t {k : Nat} {a b : Bool} {xs ys : List Int} {ah : AH} (h : xs.length ≤ big) : callN T (k + 1) 12 [sq a xs, sq b ys] ah = some (.v (.bl (sub xs ys)), ah) := by
  rw [callN_at (fd := ⟨2, 3, b_law_is_in⟩) rfl rfl]
  have e := ev_lc D.int (G := callN T k) (t := .nm 2) (vs := [2]) (w := .it (.var 0)) (c := .yes (.cmp .NotIn (.var 2) (.var 1))) (e := .var 2) (env := [.va (sq a xs), .va (sq b ys), .un]) (ah := ah) (gu := none) (fun x => !decide (x ∈ ys)) D.int (xs := xs) (sq_it rfl) (by simp [tgIn, noOw, isOw, h])
    (fun x hx => ⟨[.va (sq a xs), .va (sq b ys), .va (.int x)], rfl, by simp [runF, S.sem, fSeq, fIf, fRet, fRetN, fSkip, fDrop, fAsg, fAsgT, fPar, fPar3, asgRw, fFor, fMut, fPut, fUpd, E.v, E.a, E.i, E.o, E.c, sVar, sCon, sTup, sLst, aNil, aCons, vl, vv, sOp1, sOp2, sB, bE, bNot, bAnd, bOr, sAnd, sOr, sIte, sChn, sSl, oNone, oSome, sCall, sPop, sDnew, sDisp, sLrg, sShr, iOf, iRan1, iRan2, bYes, Cn.d, B1.sem, rr_tup, rr_lst, rr_scr, rr_dct, rr_int, rr_str, rr_bl, rr_non, rr_ref, rr_f, rr_o, Rw.val, binD, cmpR, cmpD, ofB, List.replicate, sq_rd, inD_sq], fun _ => by simp [runF, S.sem, fSeq, fIf, fRet, fRetN, fSkip, fDrop, fAsg, fAsgT, fPar, fPar3, asgRw, fFor, fMut, fPut, fUpd, E.v, E.a, E.i, E.o, E.c, sVar, sCon, sTup, sLst, aNil, aCons, vl, vv, sOp1, sOp2, sB, bE, bNot, bAnd, bOr, sAnd, sOr, sIte, sChn, sSl, oNone, oSome, sCall, sPop, sDnew, sDisp, sLrg, sShr, iOf, iRan1, iRan2, bYes, Cn.d, B1.sem, rr_tup, rr_lst, rr_scr, rr_dct, rr_int, rr_str, rr_bl, rr_non, rr_ref, rr_f, rr_o, Rw.val, binD, cmpR, cmpD, ofB, List.replicate]⟩)
  simp [runF, S.sem, fSeq, fIf, fRet, fRetN, fSkip, fDrop, fAsg, fAsgT, fPar, fPar3, asgRw, fFor, fMut, fPut, fUpd, E.v, E.a, E.i, E.o, E.c, sVar, sCon, sTup, sLst, aNil, aCons, vl, vv, sOp1, sOp2, sB, bE, bNot, bAnd, bOr, sAnd, sOr, sIte, sChn, sSl, oNone, oSome, sCall, sPop, sDnew, sDisp, sLrg, sShr, iOf, iRan1, iRan2, bYes, Cn.d, B1.sem, rr_tup, rr_lst, rr_scr, rr_dct, rr_int, rr_str, rr_bl, rr_non, rr_ref, rr_f, rr_o, Rw.val, binD, cmpR, cmpD, ofB, List.replicate, b_law_is_in]
  simp [E.v, E.a, E.i, E.o, E.c, Cn.d, B1.sem] at e
  rw [e]
  simp [runF, S.sem, fSeq, fIf, fRet, fRetN, fSkip, fDrop, fAsg, fAsgT, fPar, fPar3, asgRw, fFor, fMut, fPut, fUpd, E.v, E.a, E.i, E.o, E.c, sVar, sCon, sTup, sLst, aNil, aCons, vl, vv, sOp1, sOp2, sB, bE, bNot, bAnd, bOr, sAnd, sOr, sIte, sChn, sSl, oNone, oSome, sCall, sPop, sDnew, sDisp, sLrg, sShr, iOf, iRan1, iRan2, bYes, Cn.d, B1.sem, rr_tup, rr_lst, rr_scr, rr_dct, rr_int, rr_str, rr_bl, rr_non, rr_ref, rr_f, rr_o, Rw.val, binD, cmpR, cmpD, ofB, List.replicate, eqD_lst0 _ (flats_int _ _), ← sub_filter]
theorem ne_any {α : Type} (p : α → Bool) (xs : List α) : (!(xs.filter p).isEmpty) = xs.any p := by
  induction xs with
  | nil => rfl
  | cons x xs ih =>
    rw [List.filter_cons, List.any_cons, ← ih]
    cases p x <;> simp
theorem has_lot_t {k : Nat} {b : Bool} {fam : List (List Int)} {ys : List Int} {ah : AH} (h : fam.length ≤ big) (h2 : ∀ l ∈ fam, l.length ≤ big) : callN T (k + 2) 20 [.tup (fam.map tI), sq b ys] ah = some (.v (.bl (fam.any fun l => sub l ys)), ah) := by
  rw [callN_at (fd := ⟨2, 3, b_law_has_lot⟩) rfl rfl]
  have e := ev_lc tI (G := callN T (k + 1)) (t := .nm 2) (vs := [2]) (w := .it (.var 0)) (c := .yes (.call 12 (.cons (.var 2) (.cons (.var 1) .nil)))) (e := .var 2) (env := [.va (.tup (fam.map tI)), .va (sq b ys), .un]) (ah := ah) (gu := none) (fun l => sub l ys) tI (xs := fam) rfl (by simp [tgIn, noOw, isOw, h])
    (fun x hx => ⟨[.va (.tup (fam.map tI)), .va (sq b ys), .va (tI x)], rfl, by
      have := is_in_t (k := k) (a := true) (b := b) (xs := x) (ys := ys) (ah := ah) (h2 x hx)
      simp only [show sq true x = tI x from rfl] at this
      simp [runF, S.sem, fSeq, fIf, fRet, fRetN, fSkip, fDrop, fAsg, fAsgT, fPar, fPar3, asgRw, fFor, fMut, fPut, fUpd, E.v, E.a, E.i, E.o, E.c, sVar, sCon, sTup, sLst, aNil, aCons, vl, vv, sOp1, sOp2, sB, bE, bNot, bAnd, bOr, sAnd, sOr, sIte, sChn, sSl, oNone, oSome, sCall, sPop, sDnew, sDisp, sLrg, sShr, iOf, iRan1, iRan2, bYes, Cn.d, B1.sem, rr_tup, rr_lst, rr_scr, rr_dct, rr_int, rr_str, rr_bl, rr_non, rr_ref, rr_f, rr_o, Rw.val, binD, cmpR, cmpD, ofB, List.replicate, this], fun _ => by simp [runF, S.sem, fSeq, fIf, fRet, fRetN, fSkip, fDrop, fAsg, fAsgT, fPar, fPar3, asgRw, fFor, fMut, fPut, fUpd, E.v, E.a, E.i, E.o, E.c, sVar, sCon, sTup, sLst, aNil, aCons, vl, vv, sOp1, sOp2, sB, bE, bNot, bAnd, bOr, sAnd, sOr, sIte, sChn, sSl, oNone, oSome, sCall, sPop, sDnew, sDisp, sLrg, sShr, iOf, iRan1, iRan2, bYes, Cn.d, B1.sem, rr_tup, rr_lst, rr_scr, rr_dct, rr_int, rr_str, rr_bl, rr_non, rr_ref, rr_f, rr_o, Rw.val, binD, cmpR, cmpD, ofB, List.replicate]⟩)
  simp [runF, S.sem, fSeq, fIf, fRet, fRetN, fSkip, fDrop, fAsg, fAsgT, fPar, fPar3, asgRw, fFor, fMut, fPut, fUpd, E.v, E.a, E.i, E.o, E.c, sVar, sCon, sTup, sLst, aNil, aCons, vl, vv, sOp1, sOp2, sB, bE, bNot, bAnd, bOr, sAnd, sOr, sIte, sChn, sSl, oNone, oSome, sCall, sPop, sDnew, sDisp, sLrg, sShr, iOf, iRan1, iRan2, bYes, Cn.d, B1.sem, rr_tup, rr_lst, rr_scr, rr_dct, rr_int, rr_str, rr_bl, rr_non, rr_ref, rr_f, rr_o, Rw.val, binD, cmpR, cmpD, ofB, List.replicate, b_law_has_lot]
  simp [E.v, E.a, E.i, E.o, E.c, Cn.d, B1.sem] at e
  rw [e]
  have hf : flats 59 ((fam.filter fun l => sub l ys).map tI) = true := flats_map tI 59 (fun a => flat_tI 58 a) _
  simp [runF, S.sem, fSeq, fIf, fRet, fRetN, fSkip, fDrop, fAsg, fAsgT, fPar, fPar3, asgRw, fFor, fMut, fPut, fUpd, E.v, E.a, E.i, E.o, E.c, sVar, sCon, sTup, sLst, aNil, aCons, vl, vv, sOp1, sOp2, sB, bE, bNot, bAnd, bOr, sAnd, sOr, sIte, sChn, sSl, oNone, oSome, sCall, sPop, sDnew, sDisp, sLrg, sShr, iOf, iRan1, iRan2, bYes, Cn.d, B1.sem, rr_tup, rr_lst, rr_scr, rr_dct, rr_int, rr_str, rr_bl, rr_non, rr_ref, rr_f, rr_o, Rw.val, binD, cmpR, cmpD, ofB, List.replicate, eqD_lst0 _ hf, ← ne_any]
end U.k83
namespace U.k83
open PySem PySem.Spec PyProof.Rows L2 U
abbrev St2 := List Int × List Int
/- what is known of rows, kinds, pages, storms -/
abbrev Row (x : List Int) : Prop := x.Sublist [0, 1, 2, 3, 4, 5]
theorem rows_mem {x l : List Int} (h : x.Sublist l) : x ∈ l.foldr (fun (x : Int) (acc : List (List Int)) => acc.map (x :: ·) ++ acc) [[]] := by
  induction h with
  | slnil => simp
  | cons a _ ih => rw [List.foldr_cons, List.mem_append]; exact .inr ih
  | cons_cons a _ ih => rw [List.foldr_cons, List.mem_append, List.mem_map]; exact .inl ⟨_, ih, rfl⟩
theorem Row.all {x : List Int} (h : Row x) : x ∈ allRows := rows_mem h
theorem Row.len {x : List Int} (h : Row x) : x.length ≤ big := Nat.le_trans h.length_le (by decide)
theorem Row.filter {x : List Int} (h : Row x) (p : Int → Bool) : Row (x.filter p) := List.filter_sublist.trans h
structure WK (kd : Kd) : Prop where
  hands : Row kd.hands
  asks : ∀ a ∈ kd.asks, Row a
  keeps : ∀ a ∈ kd.keeps, Row a
  la : kd.asks.length ≤ 10
  lk : kd.keeps.length ≤ 10
  lj : kd.joins.length ≤ 3
  joins : ∀ j ∈ kd.joins, Row j.1 ∧ Row j.2
  sort : (kd.sort.cps.toList.all fun c => decide (c < 16 ^ 8)) = true ∧ kd.sort.length ≤ 10
structure WP (pages : List Pg) : Prop where
  len : pages.length ≤ 8
  rung : ∀ p ∈ pages, Row p.1
  kd : ∀ p ∈ pages, WK p.2
  nd : (pages.map (·.1)).Nodup
structure WS (storms : List St2) : Prop where
  len : storms.length ≤ 4
  rows : ∀ s ∈ storms, Row s.1 ∧ Row s.2
abbrev wo (a b : List Int) : List Int := a.filter fun x => !decide (x ∈ b)
theorem dcGo_typed {α : Type} (enc : α → D) {t : Tg} {c : FB} {k v : FV} {env0 : Ev} {ah : AH} (g : α → List Int) : ∀ {xs : List α} {L : List (List Int)}, (∀ x ∈ xs, ∃ env, bindT t (enc x) env0 = some env ∧ c env ah = some (true, ah) ∧ k env ah = some (tI (g x), ah) ∧ v env ah = some (.bl true, ah)) → L.length + xs.length < big →
    dcGo t c k v env0 (xs.map enc) (kS L) ah = some (kS ((xs.map g).foldl addL L), ah)
  | [], L, _, _ => rfl
  | x :: xs, L, h, hl => by
    obtain ⟨env, h1, h2, h3, h4⟩ := h x (List.mem_cons_self ..)
    have hl' : L.length < big := by simp at hl; omega
    have ih := dcGo_typed enc g (xs := xs) (L := addL L (g x)) (fun y hy => h y (List.mem_cons_of_mem _ hy)) (by have := @addL_len L (g x); simp at hl; omega)
    simp only [List.map_cons, dcGo, h1, Option.bind_some, h2, if_true, h3, h4, dput_kS L (g x) hl', List.foldl_cons]
    exact ih
/- left_later's dict -/
abbrev inn2 : S → S
  | .seq (.ifS _ (.seq (.for _ _ b) _) _) _ => b
  | _ => .skip
theorem later_step {k : Nat} {sky plan rung : D} {later : List Int} {kd : Kd} {ah : AH} (hk : WK kd) (hr : Row later) : ∀ {storms : List St2}, (∀ s ∈ storms, Row s.1 ∧ Row s.2) → ∀ {L : List (List Int)} {x6 x7 : Sl}, L.Nodup → (∀ x ∈ L, Row x) → L.length + storms.length * 10 ≤ 1000 →
    ∃ env' ah', forGo (.tp (.cons (.nm 6) (.cons (.nm 7) .nil))) ((inn2 (inner b_left_later)).sem (callN T (k + 1))) (storms.map eP) [.va sky, .va plan, .va rung, .ow (.dct (kS L)), .va (tI later), .va (eK kd), x6, x7, .un] ah = some (.nx env' ah') ∧
      ah' = ah ∧ ∃ L' x6 x7, env' = [.va sky, .va plan, .va rung, .ow (.dct (kS L')), .va (tI later), .va (eK kd), x6, x7, .un] ∧ L'.Nodup ∧ (∀ x ∈ L', Row x) ∧ L'.length ≤ L.length + storms.length * 10 ∧ ∀ x, x ∈ L' ↔ x ∈ L ∨ ∃ s ∈ storms, sub later s.1 = true ∧ ∃ a ∈ kd.asks, x = wo a s.2
  | [], _, L, x6, x7, nd, hl, _ => ⟨_, _, rfl, rfl, L, x6, x7, rfl, nd, hl, by simp, fun x => by simp⟩
  | s :: storms, hs, L, x6, x7, nd, hl, hz => by
    obtain ⟨r1, r2⟩ := hs s (List.mem_cons_self ..)
    have iw := is_within_t (k := k) (xs := later) (ys := s.1) (ah := ah) hr.len
    have fl : kd.asks.length ≤ 10 := hk.la
    have hbig : big = 1000000 := rfl
    by_cases hc : sub later s.1 = true
    · let L2 := (kd.asks.map fun a => wo a s.2).foldl addL []
      have hL2 : L2.length ≤ kd.asks.length := by have := @foldl_len (kd.asks.map fun a => wo a s.2) []; simpa using this
      let L3 := L2.foldl addL L
      have nd3 : L3.Nodup := foldl_nodup nd
      have m2 : ∀ x, x ∈ L2 ↔ ∃ a ∈ kd.asks, x = wo a s.2 := fun x => by
        rw [foldl_mem]
        simp only [List.not_mem_nil, false_or, List.mem_map]
        exact ⟨fun ⟨a, h1, h2⟩ => ⟨a, h1, h2.symm⟩, fun ⟨a, h1, h2⟩ => ⟨a, h1, h2.symm⟩⟩
      have row2 : ∀ x ∈ L2, Row x := fun x hx => by
        obtain ⟨a, ha, rfl⟩ := (m2 x).mp hx
        exact (hk.asks a ha).filter _
      have row3 : ∀ x ∈ L3, Row x := fun x hx => (foldl_mem.mp hx).elim (hl x) (row2 x)
      have l3 : L3.length ≤ L.length + 10 := by have := @foldl_len L2 L; show (L2.foldl addL L).length ≤ _; omega
      have dc := dcGo_typed tI (t := .nm 8) (c := bYes) (k := vl (sCall (callN T (k + 1) 2) (aCons (vl (sVar 8)) (aCons (vl (sVar 7)) aNil)))) (v := vl (sCon (.bl true))) (env0 := [.va sky, .va plan, .va rung, .ow (.dct (kS L)), .va (tI later), .va (eK kd), .va (tI s.1), .va (tI s.2), .un]) (ah := ah) (fun a => wo a s.2) (xs := kd.asks) (L := [])
        (fun a ha => ⟨[.va sky, .va plan, .va rung, .ow (.dct (kS L)), .va (tI later), .va (eK kd), .va (tI s.1), .va (tI s.2), .va (tI a)], rfl, rfl, by
          have := without_t (k := k) (xs := a) (ys := s.2) (ah := ah) (hk.asks a ha).len
          simp [runF, S.sem, fSeq, fIf, fRet, fRetN, fSkip, fDrop, fAsg, fAsgT, fPar, fPar3, asgRw, fFor, fMut, fPut, fUpd, E.v, E.a, E.i, E.o, E.c, sVar, sCon, sTup, sLst, aNil, aCons, vl, vv, sOp1, sOp2, sB, bE, bNot, bAnd, bOr, sAnd, sOr, sIte, sChn, sSl, oNone, oSome, sCall, sPop, sDnew, sDisp, sLrg, sShr, iOf, iRan1, iRan2, bYes, Cn.d, B1.sem, rr_tup, rr_lst, rr_scr, rr_dct, rr_int, rr_str, rr_bl, rr_non, rr_ref, rr_f, rr_o, Rw.val, binD, cmpR, cmpD, ofB, List.replicate, this], by simp [runF, S.sem, fSeq, fIf, fRet, fRetN, fSkip, fDrop, fAsg, fAsgT, fPar, fPar3, asgRw, fFor, fMut, fPut, fUpd, E.v, E.a, E.i, E.o, E.c, sVar, sCon, sTup, sLst, aNil, aCons, vl, vv, sOp1, sOp2, sB, bE, bNot, bAnd, bOr, sAnd, sOr, sIte, sChn, sSl, oNone, oSome, sCall, sPop, sDnew, sDisp, sLrg, sShr, iOf, iRan1, iRan2, bYes, Cn.d, B1.sem, rr_tup, rr_lst, rr_scr, rr_dct, rr_int, rr_str, rr_bl, rr_non, rr_ref, rr_f, rr_o, Rw.val, binD, cmpR, cmpD, ofB, List.replicate]⟩) (by simp; omega)
      have up : updD (.dct (kS L)) (.dct (kS L2)) = some (.dct (kS L3)) := by
        unfold updD
        have nd2 : L2.Nodup := foldl_nodup List.nodup_nil
        have ap := apart_kS nd2 fun x hx => (row2 x hx).all
        have c1 : ((!(kS L).isEmpty || apart (kS L2)) && sameKind (kS L) (.n .none) && decide ((kS L).length + (kS L2).length ≤ big)) = true := by
          rw [ap, Bool.or_true, sameKind_kS, Bool.true_and, Bool.true_and, decide_eq_true_eq, List.length_map, List.length_map]
          omega
        simp only [c1, if_true]
        rw [dputsK_kS L2 L (by omega)]
        rfl
      have step : (inn2 (inner b_left_later)).sem (callN T (k + 1)) [.va sky, .va plan, .va rung, .ow (.dct (kS L)), .va (tI later), .va (eK kd), .va (tI s.1), .va (tI s.2), .un] ah = some (.nx [.va sky, .va plan, .va rung, .ow (.dct (kS L3)), .va (tI later), .va (eK kd), .va (tI s.1), .va (tI s.2), .un] ah) := by
        have iw : callN T (k + 1) 0 [tI later, tI s.1] ah = some (.v (.bl (sub later s.1)), ah) := iw
        have dc' : dcGo (.nm 8) bYes (vl (sCall (callN T (k + 1) 2) (aCons (vl (sVar 8)) (aCons (vl (sVar 7)) aNil)))) (vl (sCon (.bl true))) [.va sky, .va plan, .va rung, .ow (.dct (kS L)), .va (tI later), .va (eK kd), .va (tI s.1), .va (tI s.2), .un] (kd.asks.map tI) [] ah = some (kS L2, ah) := dc
        simp [runF, S.sem, fSeq, fIf, fRet, fRetN, fSkip, fDrop, fAsg, fAsgT, fPar, fPar3, asgRw, fFor, fMut, fPut, fUpd, E.v, E.a, E.i, E.o, E.c, sVar, sCon, sTup, sLst, aNil, aCons, vl, vv, sOp1, sOp2, sB, bE, bNot, bAnd, bOr, sAnd, sOr, sIte, sChn, sSl, oNone, oSome, sCall, sPop, sDnew, sDisp, sLrg, sShr, iOf, iRan1, iRan2, bYes, Cn.d, B1.sem, rr_tup, rr_lst, rr_scr, rr_dct, rr_int, rr_str, rr_bl, rr_non, rr_ref, rr_f, rr_o, Rw.val, binD, cmpR, cmpD, ofB, List.replicate, b_left_later, inner, inn2, iw, hc, sDc, tgIn, noOw, isOw, wipeE, atI2, ixD, dc', locOf, at', upE, upA, isDct, up]
      obtain ⟨env', ah', f1, f2, L', y6, y7, f3, f4, f5, f6, f7⟩ := later_step hk hr (storms := storms) (fun s hs' => hs s (List.mem_cons_of_mem _ hs')) (L := L3) (x6 := .va (tI s.1)) (x7 := .va (tI s.2)) nd3 row3 (by simp at hz; omega)
      refine ⟨env', ah', ?_, f2, L', y6, y7, f3, f4, f5, by simp; omega, fun x => ?_⟩
      · rw [List.map_cons, forGo]
        show (some _ : Option Ev).bind _ = _
        rw [Option.bind_some]
        show (((inn2 (inner b_left_later)).sem (callN T (k + 1)) [.va sky, .va plan, .va rung, .ow (.dct (kS L)), .va (tI later), .va (eK kd), .va (tI s.1), .va (tI s.2), .un] ah).bind _) = _
        rw [step]
        exact f1
      · rw [f7, foldl_mem, m2]
        simp only [List.mem_cons, exists_eq_or_imp, hc, true_and, or_assoc]
    · have iw : callN T (k + 1) 0 [tI later, tI s.1] ah = some (.v (.bl (sub later s.1)), ah) := iw
      have hc' : sub later s.1 = false := by simpa using hc
      have step : (inn2 (inner b_left_later)).sem (callN T (k + 1)) [.va sky, .va plan, .va rung, .ow (.dct (kS L)), .va (tI later), .va (eK kd), .va (tI s.1), .va (tI s.2), .un] ah = some (.nx [.va sky, .va plan, .va rung, .ow (.dct (kS L)), .va (tI later), .va (eK kd), .va (tI s.1), .va (tI s.2), .un] ah) := by
        simp [runF, S.sem, fSeq, fIf, fRet, fRetN, fSkip, fDrop, fAsg, fAsgT, fPar, fPar3, asgRw, fFor, fMut, fPut, fUpd, E.v, E.a, E.i, E.o, E.c, sVar, sCon, sTup, sLst, aNil, aCons, vl, vv, sOp1, sOp2, sB, bE, bNot, bAnd, bOr, sAnd, sOr, sIte, sChn, sSl, oNone, oSome, sCall, sPop, sDnew, sDisp, sLrg, sShr, iOf, iRan1, iRan2, bYes, Cn.d, B1.sem, rr_tup, rr_lst, rr_scr, rr_dct, rr_int, rr_str, rr_bl, rr_non, rr_ref, rr_f, rr_o, Rw.val, binD, cmpR, cmpD, ofB, List.replicate, b_left_later, inner, inn2, iw, hc']
      obtain ⟨env', ah', f1, f2, L', y6, y7, f3, f4, f5, f6, f7⟩ := later_step hk hr (storms := storms) (fun s hs' => hs s (List.mem_cons_of_mem _ hs')) (L := L) (x6 := .va (tI s.1)) (x7 := .va (tI s.2)) nd hl (by simp at hz; omega)
      refine ⟨env', ah', ?_, f2, L', y6, y7, f3, f4, f5, by simp; omega, fun x => ?_⟩
      · rw [List.map_cons, forGo]
        show (some _ : Option Ev).bind _ = _
        rw [Option.bind_some]
        show (((inn2 (inner b_left_later)).sem (callN T (k + 1)) [.va sky, .va plan, .va rung, .ow (.dct (kS L)), .va (tI later), .va (eK kd), .va (tI s.1), .va (tI s.2), .un] ah).bind _) = _
        rw [step]
        exact f1
      · rw [f7]
        simp only [List.mem_cons, exists_eq_or_imp, hc', Bool.false_eq_true, false_and, false_or]
theorem left_later_t {k : Nat} {many : Int} {bells rung : List Int} {storms : List St2} {b : Bool} {pages : List Pg} {ah : AH} (hs : WS storms) (hp : WP pages) (hr : Row rung) :
    ∃ L : List (List Int), callN T (k + 2) 4 [eSky many bells storms, ePl b pages, tI rung] ah = some (.f (.lst (L.map tI)), ah) ∧ L.length ≤ 1000 ∧ (∀ x ∈ L, Row x) ∧
      ∀ x, x ∈ L ↔ ∃ p ∈ pages, sub rung p.1 = true ∧ ∃ s ∈ storms, sub p.1 s.1 = true ∧ ∃ a ∈ p.2.asks, x = wo a s.2 := by
  have go : ∀ (ps : List Pg), (∀ p ∈ ps, p ∈ pages) → ∀ {L : List (List Int)} {x4 x5 x6 x7 : Sl}, L.Nodup → (∀ x ∈ L, Row x) → L.length + ps.length * 40 ≤ 400 →
      ∃ env' ah', forGo (.tp (.cons (.nm 4) (.cons (.nm 5) .nil))) ((inner b_left_later).sem (callN T (k + 1))) (ps.map ePg) [.va (eSky many bells storms), .va (ePl b pages), .va (tI rung), .ow (.dct (kS L)), x4, x5, x6, x7, .un] ah = some (.nx env' ah') ∧
        ah' = ah ∧ ∃ L' x4 x5 x6 x7, env' = [.va (eSky many bells storms), .va (ePl b pages), .va (tI rung), .ow (.dct (kS L')), x4, x5, x6, x7, .un] ∧ L'.Nodup ∧ (∀ x ∈ L', Row x) ∧ L'.length ≤ L.length + ps.length * 40 ∧
        ∀ x, x ∈ L' ↔ x ∈ L ∨ ∃ p ∈ ps, sub rung p.1 = true ∧ ∃ s ∈ storms, sub p.1 s.1 = true ∧ ∃ a ∈ p.2.asks, x = wo a s.2 := by
    intro ps
    induction ps with
    | nil => exact fun _ {L x4 x5 x6 x7} nd hl _ => ⟨_, _, rfl, rfl, L, x4, x5, x6, x7, rfl, nd, hl, by simp, fun x => by simp⟩
    | cons p ps ih =>
      intro hm L x4 x5 x6 x7 nd hl hz
      have hpp := hm p (List.mem_cons_self ..)
      have iw : callN T (k + 1) 0 [tI rung, tI p.1] ah = some (.v (.bl (sub rung p.1)), ah) := is_within_t hr.len
      have hsl := hs.len
      by_cases hc : sub rung p.1 = true
      · obtain ⟨env1, ah1, f1, rfl, L1, y6, y7, rfl, n1, r1, l1, m1⟩ := later_step (k := k) (sky := eSky many bells storms) (plan := ePl b pages) (rung := tI rung) (later := p.1) (kd := p.2) (ah := ah) (hp.kd p hpp) (hp.rung p hpp) (storms := storms) hs.rows (L := L) (x6 := x6) (x7 := x7) nd hl (by simp at hz; omega)
        have step : (inner b_left_later).sem (callN T (k + 1)) [.va (eSky many bells storms), .va (ePl b pages), .va (tI rung), .ow (.dct (kS L)), .va (tI p.1), .va (eK p.2), x6, x7, .un] ah1 = some (.nx [.va (eSky many bells storms), .va (ePl b pages), .va (tI rung), .ow (.dct (kS L1)), .va (tI p.1), .va (eK p.2), y6, y7, .un] ah1) := by
          simp [runF, S.sem, fSeq, fIf, fRet, fRetN, fSkip, fDrop, fAsg, fAsgT, fPar, fPar3, asgRw, fFor, fMut, fPut, fUpd, E.v, E.a, E.i, E.o, E.c, sVar, sCon, sTup, sLst, aNil, aCons, vl, vv, sOp1, sOp2, sB, bE, bNot, bAnd, bOr, sAnd, sOr, sIte, sChn, sSl, oNone, oSome, sCall, sPop, sDnew, sDisp, sLrg, sShr, iOf, iRan1, iRan2, bYes, Cn.d, B1.sem, rr_tup, rr_lst, rr_scr, rr_dct, rr_int, rr_str, rr_bl, rr_non, rr_ref, rr_f, rr_o, Rw.val, binD, cmpR, cmpD, ofB, List.replicate, b_left_later, inner, inn2, atI2, ixD] at f1 ⊢
          simp [runF, S.sem, fSeq, fIf, fRet, fRetN, fSkip, fDrop, fAsg, fAsgT, fPar, fPar3, asgRw, fFor, fMut, fPut, fUpd, E.v, E.a, E.i, E.o, E.c, sVar, sCon, sTup, sLst, aNil, aCons, vl, vv, sOp1, sOp2, sB, bE, bNot, bAnd, bOr, sAnd, sOr, sIte, sChn, sSl, oNone, oSome, sCall, sPop, sDnew, sDisp, sLrg, sShr, iOf, iRan1, iRan2, bYes, Cn.d, B1.sem, rr_tup, rr_lst, rr_scr, rr_dct, rr_int, rr_str, rr_bl, rr_non, rr_ref, rr_f, rr_o, Rw.val, binD, cmpR, cmpD, ofB, List.replicate, iw, hc, f1]
        obtain ⟨env', ah', g1, g2, L', z4, z5, z6, z7, g3, g4, g5, g6, g7⟩ := ih (fun q hq => hm q (List.mem_cons_of_mem _ hq)) (L := L1) (x4 := .va (tI p.1)) (x5 := .va (eK p.2)) (x6 := y6) (x7 := y7) n1 r1 (by simp at hz; omega)
        refine ⟨env', ah', ?_, g2, L', z4, z5, z6, z7, g3, g4, g5, by simp; omega, fun x => ?_⟩
        · rw [List.map_cons, forGo]
          show (some _ : Option Ev).bind _ = _
          rw [Option.bind_some]
          show (((inner b_left_later).sem (callN T (k + 1)) [.va (eSky many bells storms), .va (ePl b pages), .va (tI rung), .ow (.dct (kS L)), .va (tI p.1), .va (eK p.2), x6, x7, .un] ah1).bind _) = _
          rw [step]
          exact g1
        · rw [g7, m1]
          simp only [List.mem_cons, exists_eq_or_imp, hc, true_and, or_assoc]
      · have hc' : sub rung p.1 = false := by simpa using hc
        have step : (inner b_left_later).sem (callN T (k + 1)) [.va (eSky many bells storms), .va (ePl b pages), .va (tI rung), .ow (.dct (kS L)), .va (tI p.1), .va (eK p.2), x6, x7, .un] ah = some (.nx [.va (eSky many bells storms), .va (ePl b pages), .va (tI rung), .ow (.dct (kS L)), .va (tI p.1), .va (eK p.2), x6, x7, .un] ah) := by
          simp [runF, S.sem, fSeq, fIf, fRet, fRetN, fSkip, fDrop, fAsg, fAsgT, fPar, fPar3, asgRw, fFor, fMut, fPut, fUpd, E.v, E.a, E.i, E.o, E.c, sVar, sCon, sTup, sLst, aNil, aCons, vl, vv, sOp1, sOp2, sB, bE, bNot, bAnd, bOr, sAnd, sOr, sIte, sChn, sSl, oNone, oSome, sCall, sPop, sDnew, sDisp, sLrg, sShr, iOf, iRan1, iRan2, bYes, Cn.d, B1.sem, rr_tup, rr_lst, rr_scr, rr_dct, rr_int, rr_str, rr_bl, rr_non, rr_ref, rr_f, rr_o, Rw.val, binD, cmpR, cmpD, ofB, List.replicate, b_left_later, inner, iw, hc']
        obtain ⟨env', ah', g1, g2, L', z4, z5, z6, z7, g3, g4, g5, g6, g7⟩ := ih (fun q hq => hm q (List.mem_cons_of_mem _ hq)) (L := L) (x4 := .va (tI p.1)) (x5 := .va (eK p.2)) (x6 := x6) (x7 := x7) nd hl (by simp at hz; omega)
        refine ⟨env', ah', ?_, g2, L', z4, z5, z6, z7, g3, g4, g5, by simp; omega, fun x => ?_⟩
        · rw [List.map_cons, forGo]
          show (some _ : Option Ev).bind _ = _
          rw [Option.bind_some]
          show (((inner b_left_later).sem (callN T (k + 1)) [.va (eSky many bells storms), .va (ePl b pages), .va (tI rung), .ow (.dct (kS L)), .va (tI p.1), .va (eK p.2), x6, x7, .un] ah).bind _) = _
          rw [step]
          exact g1
        · rw [g7]
          simp only [List.mem_cons, exists_eq_or_imp, hc', Bool.false_eq_true, false_and, false_or]
  have hpl := hp.len
  obtain ⟨env', ah', g1, rfl, L', z4, z5, z6, z7, rfl, g4, g5, g6, g7⟩ := go pages (fun p h => h) (L := []) (x4 := .un) (x5 := .un) (x6 := .un) (x7 := .un) List.nodup_nil (fun x h => by simp at h) (by simp; omega)
  refine ⟨L', ?_, by simp at g6; omega, g5, fun x => by rw [g7]; simp⟩
  rw [callN_at (fd := ⟨3, 9, b_left_later⟩) rfl rfl]
  simp [runF, S.sem, fSeq, fIf, fRet, fRetN, fSkip, fDrop, fAsg, fAsgT, fPar, fPar3, asgRw, fFor, fMut, fPut, fUpd, E.v, E.a, E.i, E.o, E.c, sVar, sCon, sTup, sLst, aNil, aCons, vl, vv, sOp1, sOp2, sB, bE, bNot, bAnd, bOr, sAnd, sOr, sIte, sChn, sSl, oNone, oSome, sCall, sPop, sDnew, sDisp, sLrg, sShr, iOf, iRan1, iRan2, bYes, Cn.d, B1.sem, rr_tup, rr_lst, rr_scr, rr_dct, rr_int, rr_str, rr_bl, rr_non, rr_ref, rr_f, rr_o, Rw.val, binD, cmpR, cmpD, ofB, List.replicate, b_left_later, inner, atI1, ixD] at g1 ⊢
  rw [g1]
  simp [runF, S.sem, fSeq, fIf, fRet, fRetN, fSkip, fDrop, fAsg, fAsgT, fPar, fPar3, asgRw, fFor, fMut, fPut, fUpd, E.v, E.a, E.i, E.o, E.c, sVar, sCon, sTup, sLst, aNil, aCons, vl, vv, sOp1, sOp2, sB, bE, bNot, bAnd, bOr, sAnd, sOr, sIte, sChn, sSl, oNone, oSome, sCall, sPop, sDnew, sDisp, sLrg, sShr, iOf, iRan1, iRan2, bYes, Cn.d, B1.sem, rr_tup, rr_lst, rr_scr, rr_dct, rr_int, rr_str, rr_bl, rr_non, rr_ref, rr_f, rr_o, Rw.val, binD, cmpR, cmpD, ofB, List.replicate, lstD, keys_kS]
end U.k83
namespace U.k83
open PySem PySem.Spec PyProof.Rows L2 U
abbrev mSure : Str := { cps := #[115, 117, 114, 101] }
abbrev mKept : Str := { cps := #[107, 101, 112, 116] }
abbrev mAlw : Str := { cps := #[97, 108, 119, 97, 121, 115] }
abbrev mNev : Str := { cps := #[110, 101, 118, 101, 114] }
theorem eqD00 : eqD (.tup []) (.tup []) = some true := rfl
theorem any_map_id {α : Type} (p : α → Bool) (xs : List α) : (xs.map p).any id = xs.any p := by rw [List.any_map]; rfl
theorem toB_sure {k : Nat} {b : Bool} {pages : List Pg} {rung sm : List Int} {L : List (List Int)} {ah : AH} (hs : sm.length ≤ big) (hL : L.length ≤ big) : callN T (k + 2) 5 [ePl b pages, .str mSure, tI rung, tI sm, .lst (L.map tI)] ah = some (.v (.bl (L.any fun own => decide ((sm.filter fun x => decide (x ∈ own)) = []))), ah) := by
  rw [callN_at (fd := ⟨5, 7, b_has_to_be⟩) rfl rfl]
  have e := ev_lc tI (G := callN T (k + 1)) (t := .nm 5) (vs := [5]) (w := .it (.var 4)) (c := .no) (e := .cmp .Eq (.call 1 (.cons (.var 3) (.cons (.var 5) .nil))) (.tup .nil)) (env := [.va (ePl b pages), .va (.str mSure), .va (tI rung), .va (tI sm), .va (.lst (L.map tI)), .un, .un]) (ah := ah) (gu := none) (fun _ => true) (fun own => .bl (decide ((sm.filter fun x => decide (x ∈ own)) = []))) (xs := L) rfl (by simp [tgIn, noOw, isOw, hL])
    (fun own hx => ⟨[.va (ePl b pages), .va (.str mSure), .va (tI rung), .va (tI sm), .va (.lst (L.map tI)), .va (tI own), .un], rfl, rfl, fun _ => by
      have := common_t (k := k) (xs := sm) (ys := own) (ah := ah) hs
      have h2 := eqD_tI0 (sm.filter fun x => decide (x ∈ own))
      simp [runF, S.sem, fSeq, fIf, fRet, fRetN, fSkip, fDrop, fAsg, fAsgT, fPar, fPar3, asgRw, fFor, fMut, fPut, fUpd, E.v, E.a, E.i, E.o, E.c, sVar, sCon, sTup, sLst, aNil, aCons, vl, vv, sOp1, sOp2, sB, bE, bNot, bAnd, bOr, sAnd, sOr, sIte, sChn, sSl, oNone, oSome, sCall, sPop, sDnew, sDisp, sLrg, sShr, iOf, iRan1, iRan2, bYes, Cn.d, B1.sem, rr_tup, rr_lst, rr_scr, rr_dct, rr_int, rr_str, rr_bl, rr_non, rr_ref, rr_f, rr_o, Rw.val, binD, cmpR, cmpD, ofB, List.replicate, this, h2, big]⟩)
  simp [runF, S.sem, fSeq, fIf, fRet, fRetN, fSkip, fDrop, fAsg, fAsgT, fPar, fPar3, asgRw, fFor, fMut, fPut, fUpd, E.v, E.a, E.i, E.o, E.c, sVar, sCon, sTup, sLst, aNil, aCons, vl, vv, sOp1, sOp2, sB, bE, bNot, bAnd, bOr, sAnd, sOr, sIte, sChn, sSl, oNone, oSome, sCall, sPop, sDnew, sDisp, sLrg, sShr, iOf, iRan1, iRan2, bYes, Cn.d, B1.sem, rr_tup, rr_lst, rr_scr, rr_dct, rr_int, rr_str, rr_bl, rr_non, rr_ref, rr_f, rr_o, Rw.val, binD, cmpR, cmpD, ofB, List.replicate, b_has_to_be, eqD_str]
  simp [E.v, E.a, E.i, E.o, E.c, Cn.d, B1.sem] at e
  rw [e]
  simp [runF, S.sem, fSeq, fIf, fRet, fRetN, fSkip, fDrop, fAsg, fAsgT, fPar, fPar3, asgRw, fFor, fMut, fPut, fUpd, E.v, E.a, E.i, E.o, E.c, sVar, sCon, sTup, sLst, aNil, aCons, vl, vv, sOp1, sOp2, sB, bE, bNot, bAnd, bOr, sAnd, sOr, sIte, sChn, sSl, oNone, oSome, sCall, sPop, sDnew, sDisp, sLrg, sShr, iOf, iRan1, iRan2, bYes, Cn.d, B1.sem, rr_tup, rr_lst, rr_scr, rr_dct, rr_int, rr_str, rr_bl, rr_non, rr_ref, rr_f, rr_o, Rw.val, binD, cmpR, cmpD, ofB, List.replicate, anyD, bools_map, any_map_id]
theorem toB_kept {k : Nat} {b : Bool} {pages : List Pg} {rung sm : List Int} {later : D} {kd : Kd} {ah : AH} (hf : pages.findSome? (fun p => if p.1 = rung then some (Rw.v (eK p.2)) else none) = some (.v (eK kd))) (hk : WK kd) :
    callN T (k + 2) 5 [ePl b pages, .str mKept, tI rung, tI sm, later] ah = some (.v (.bl (!kd.keeps.any fun l => sub l sm)), ah) := by
  rw [callN_at (fd := ⟨5, 7, b_has_to_be⟩) rfl rfl]
  have pg := page_t (k := k) (b := b) (pages := pages) (rung := rung) (ah := ah)
  rw [hf] at pg
  simp only at pg
  have e := ev_lc tI (G := callN T (k + 1)) (t := .nm 6) (vs := [6]) (w := .it (.ix (.call 3 (.cons (.var 0) (.cons (.var 2) .nil))) (.cn (.int 3)))) (c := .no) (e := .call 0 (.cons (.var 6) (.cons (.var 3) .nil))) (env := [.va (ePl b pages), .va (.str mKept), .va (tI rung), .va (tI sm), .va later, .un, .un]) (ah := ah) (gu := none) (fun _ => true) (fun l => .bl (sub l sm)) (xs := kd.keeps) (by simp [runF, S.sem, fSeq, fIf, fRet, fRetN, fSkip, fDrop, fAsg, fAsgT, fPar, fPar3, asgRw, fFor, fMut, fPut, fUpd, E.v, E.a, E.i, E.o, E.c, sVar, sCon, sTup, sLst, aNil, aCons, vl, vv, sOp1, sOp2, sB, bE, bNot, bAnd, bOr, sAnd, sOr, sIte, sChn, sSl, oNone, oSome, sCall, sPop, sDnew, sDisp, sLrg, sShr, iOf, iRan1, iRan2, bYes, Cn.d, B1.sem, rr_tup, rr_lst, rr_scr, rr_dct, rr_int, rr_str, rr_bl, rr_non, rr_ref, rr_f, rr_o, Rw.val, binD, cmpR, cmpD, ofB, List.replicate, pg, atI3, ixD]) (by have := hk.lk; have hb : big = 1000000 := rfl; simp [tgIn, noOw, isOw]; omega)
    (fun l hx => ⟨[.va (ePl b pages), .va (.str mKept), .va (tI rung), .va (tI sm), .va later, .un, .va (tI l)], rfl, rfl, fun _ => by
      have : callN T (k + 1) 0 [tI l, tI sm] ah = some (.v (.bl (sub l sm)), ah) := is_within_t (hk.keeps l hx).len
      simp [runF, S.sem, fSeq, fIf, fRet, fRetN, fSkip, fDrop, fAsg, fAsgT, fPar, fPar3, asgRw, fFor, fMut, fPut, fUpd, E.v, E.a, E.i, E.o, E.c, sVar, sCon, sTup, sLst, aNil, aCons, vl, vv, sOp1, sOp2, sB, bE, bNot, bAnd, bOr, sAnd, sOr, sIte, sChn, sSl, oNone, oSome, sCall, sPop, sDnew, sDisp, sLrg, sShr, iOf, iRan1, iRan2, bYes, Cn.d, B1.sem, rr_tup, rr_lst, rr_scr, rr_dct, rr_int, rr_str, rr_bl, rr_non, rr_ref, rr_f, rr_o, Rw.val, binD, cmpR, cmpD, ofB, List.replicate, this]⟩)
  simp [runF, S.sem, fSeq, fIf, fRet, fRetN, fSkip, fDrop, fAsg, fAsgT, fPar, fPar3, asgRw, fFor, fMut, fPut, fUpd, E.v, E.a, E.i, E.o, E.c, sVar, sCon, sTup, sLst, aNil, aCons, vl, vv, sOp1, sOp2, sB, bE, bNot, bAnd, bOr, sAnd, sOr, sIte, sChn, sSl, oNone, oSome, sCall, sPop, sDnew, sDisp, sLrg, sShr, iOf, iRan1, iRan2, bYes, Cn.d, B1.sem, rr_tup, rr_lst, rr_scr, rr_dct, rr_int, rr_str, rr_bl, rr_non, rr_ref, rr_f, rr_o, Rw.val, binD, cmpR, cmpD, ofB, List.replicate, b_has_to_be, eqD_str]
  simp [E.v, E.a, E.i, E.o, E.c, Cn.d, B1.sem] at e
  rw [e]
  simp [runF, S.sem, fSeq, fIf, fRet, fRetN, fSkip, fDrop, fAsg, fAsgT, fPar, fPar3, asgRw, fFor, fMut, fPut, fUpd, E.v, E.a, E.i, E.o, E.c, sVar, sCon, sTup, sLst, aNil, aCons, vl, vv, sOp1, sOp2, sB, bE, bNot, bAnd, bOr, sAnd, sOr, sIte, sChn, sSl, oNone, oSome, sCall, sPop, sDnew, sDisp, sLrg, sShr, iOf, iRan1, iRan2, bYes, Cn.d, B1.sem, rr_tup, rr_lst, rr_scr, rr_dct, rr_int, rr_str, rr_bl, rr_non, rr_ref, rr_f, rr_o, Rw.val, binD, cmpR, cmpD, ofB, List.replicate, anyD, bools_map, any_map_id]
theorem toB_oth {k : Nat} {m : Str} (hm : m = mAlw ∨ m = mNev) {plan rung sm later : D} {ah : AH} : callN T (k + 2) 5 [plan, .str m, rung, sm, later] ah = some (.v (.bl (decide (m = mAlw))), ah) := by
  rw [callN_at (fd := ⟨5, 7, b_has_to_be⟩) rfl rfl]
  rcases hm with rfl | rfl <;> simp [runF, S.sem, fSeq, fIf, fRet, fRetN, fSkip, fDrop, fAsg, fAsgT, fPar, fPar3, asgRw, fFor, fMut, fPut, fUpd, E.v, E.a, E.i, E.o, E.c, sVar, sCon, sTup, sLst, aNil, aCons, vl, vv, sOp1, sOp2, sB, bE, bNot, bAnd, bOr, sAnd, sOr, sIte, sChn, sSl, oNone, oSome, sCall, sPop, sDnew, sDisp, sLrg, sShr, iOf, iRan1, iRan2, bYes, Cn.d, B1.sem, rr_tup, rr_lst, rr_scr, rr_dct, rr_int, rr_str, rr_bl, rr_non, rr_ref, rr_f, rr_o, Rw.val, binD, cmpR, cmpD, ofB, List.replicate, b_has_to_be, eqD_str]
/- what is looked for: the first page, keep lot, ask lot -/
def hit (H : Pg → List Int → Bool) (p : Pg) (kp a : List Int) : Option (List Int × List Int × List Int) := if (!(kp.filter fun x => decide (x ∈ a)).isEmpty && H p (kp.filter fun x => decide (x ∈ a))) = true then some (p.1, kp, a) else none
def hits (H : Pg → List Int → Bool) (pages : List Pg) : Option (List Int × List Int × List Int) := pages.findSome? fun p => p.2.keeps.findSome? fun kp => p.2.asks.findSome? fun a => hit H p kp a
def eH (r : List Int × List Int × List Int) : D := .tup [tI r.1, tI r.2.1, tI r.2.2]
abbrev eHo : Option (List Int × List Int × List Int) → D
  | some r => eH r
  | none => .non
theorem find_map {α β γ : Type} (f : α → Option β) (g : β → γ) (xs : List α) : (xs.findSome? fun x => (f x).map g) = (xs.findSome? f).map g := by
  induction xs with
  | nil => rfl
  | cons x xs ih =>
    rw [List.findSome?_cons, List.findSome?_cons]
    cases f x <;> simp [ih]
abbrev rH (r : List Int × List Int × List Int) : Rw := .v (eH r)
theorem at_once_t {k : Nat} {many : Int} {bells : List Int} {storms : List St2} {b : Bool} {pages : List Pg} {m : Str} {ah : AH} (H : Pg → List Int → Bool) (hp : WP pages) (lat : Pg → List (List Int))
    (hl : ∀ p ∈ pages, (if m = mSure then callN T (k + 3) 4 [eSky many bells storms, ePl b pages, tI p.1] ah = some (.f (.lst ((lat p).map tI)), ah) else lat p = []))
    (hH : ∀ p ∈ pages, ∀ sm, Row sm → callN T (k + 3) 5 [ePl b pages, .str m, tI p.1, tI sm, .lst ((lat p).map tI)] ah = some (.v (.bl (H p sm)), ah)) :
    callN T (k + 4) 6 [eSky many bells storms, ePl b pages, .str m] ah = some (.v (eHo (hits H pages)), ah) := by
  rw [callN_at (fd := ⟨3, 9, b_at_once⟩) rfl rfl]
  have e := for_find (G := Unit) ePg (t := .tp (.cons (.nm 3) (.cons (.nm 4) .nil))) (f := (inner b_at_once).sem (callN T (k + 3))) (ah := ah) (fun env => ∃ x3 x4 x5 x6 x7 x8, env = [.va (eSky many bells storms), .va (ePl b pages), .va (.str m), x3, x4, x5, x6, x7, x8])
    (fun p => (p.2.keeps.findSome? fun kp => p.2.asks.findSome? fun a => hit H p kp a).map rH) (xs := pages) (env := [.va (eSky many bells storms), .va (ePl b pages), .va (.str m), .un, .un, .un, .un, .un, .un]) ⟨_, _, _, _, _, _, rfl⟩
    (fun p hpp env ⟨x3, x4, x5, x6, x7, x8, he⟩ => by
      subst he
      refine ⟨[.va (eSky many bells storms), .va (ePl b pages), .va (.str m), .va (tI p.1), .va (eK p.2), x5, x6, x7, x8], rfl, ?_⟩
      have hk := hp.kd p hpp
      have e2 := for_find (G := Unit) tI (t := .nm 6) (f := (inner (inner b_at_once)).sem (callN T (k + 3))) (ah := ah) (fun env => ∃ x6 x7 x8, env = [.va (eSky many bells storms), .va (ePl b pages), .va (.str m), .va (tI p.1), .va (eK p.2), .va (.lst ((lat p).map tI)), x6, x7, x8])
        (fun kp => (p.2.asks.findSome? fun a => hit H p kp a).map rH) (xs := p.2.keeps) (env := [.va (eSky many bells storms), .va (ePl b pages), .va (.str m), .va (tI p.1), .va (eK p.2), .va (.lst ((lat p).map tI)), x6, x7, x8]) ⟨_, _, _, rfl⟩
        (fun kp hkp env ⟨x6, x7, x8, he⟩ => by
          subst he
          refine ⟨[.va (eSky many bells storms), .va (ePl b pages), .va (.str m), .va (tI p.1), .va (eK p.2), .va (.lst ((lat p).map tI)), .va (tI kp), x7, x8], rfl, ?_⟩
          have rk := hk.keeps kp hkp
          have e3 := for_find (G := Unit) tI (t := .nm 7) (f := (inner (inner (inner b_at_once))).sem (callN T (k + 3))) (ah := ah) (fun env => ∃ x7 x8, env = [.va (eSky many bells storms), .va (ePl b pages), .va (.str m), .va (tI p.1), .va (eK p.2), .va (.lst ((lat p).map tI)), .va (tI kp), x7, x8])
            (fun a => (hit H p kp a).map rH) (xs := p.2.asks) (env := [.va (eSky many bells storms), .va (ePl b pages), .va (.str m), .va (tI p.1), .va (eK p.2), .va (.lst ((lat p).map tI)), .va (tI kp), x7, x8]) ⟨_, _, rfl⟩
            (fun a ha env ⟨x7, x8, he⟩ => by
              subst he
              refine ⟨[.va (eSky many bells storms), .va (ePl b pages), .va (.str m), .va (tI p.1), .va (eK p.2), .va (.lst ((lat p).map tI)), .va (tI kp), .va (tI a), x8], rfl, ?_⟩
              have cm := common_t (k := k + 2) (xs := kp) (ys := a) (ah := ah) rk.len
              have hh := hH p hpp (kp.filter fun x => decide (x ∈ a)) (rk.filter _)
              have hq := eqD_tI0 (kp.filter fun x => decide (x ∈ a))
              generalize hF : (kp.filter fun x => decide (x ∈ a)) = F at cm hh hq
              by_cases hc : (!F.isEmpty && H p F) = true
              · rw [hit, hF, if_pos hc]
                simp only [Bool.and_eq_true, Bool.not_eq_true', List.isEmpty_eq_false_iff] at hc
                show (inner (inner (inner b_at_once))).sem (callN T (k + 3)) _ ah = some (.rt (rH (p.1, kp, a)) ah)
                simp [runF, S.sem, fSeq, fIf, fRet, fRetN, fSkip, fDrop, fAsg, fAsgT, fPar, fPar3, asgRw, fFor, fMut, fPut, fUpd, E.v, E.a, E.i, E.o, E.c, sVar, sCon, sTup, sLst, aNil, aCons, vl, vv, sOp1, sOp2, sB, bE, bNot, bAnd, bOr, sAnd, sOr, sIte, sChn, sSl, oNone, oSome, sCall, sPop, sDnew, sDisp, sLrg, sShr, iOf, iRan1, iRan2, bYes, Cn.d, B1.sem, rr_tup, rr_lst, rr_scr, rr_dct, rr_int, rr_str, rr_bl, rr_non, rr_ref, rr_f, rr_o, Rw.val, binD, cmpR, cmpD, ofB, List.replicate, b_at_once, inner, cm, hq, hc.1, hh, hc.2, big, eH]
              · rw [hit, hF, if_neg hc]
                refine ⟨[.va (eSky many bells storms), .va (ePl b pages), .va (.str m), .va (tI p.1), .va (eK p.2), .va (.lst ((lat p).map tI)), .va (tI kp), .va (tI a), .va (tI F)], ?_, _, _, rfl⟩
                by_cases h0 : F = []
                · subst h0
                  simp [runF, S.sem, fSeq, fIf, fRet, fRetN, fSkip, fDrop, fAsg, fAsgT, fPar, fPar3, asgRw, fFor, fMut, fPut, fUpd, E.v, E.a, E.i, E.o, E.c, sVar, sCon, sTup, sLst, aNil, aCons, vl, vv, sOp1, sOp2, sB, bE, bNot, bAnd, bOr, sAnd, sOr, sIte, sChn, sSl, oNone, oSome, sCall, sPop, sDnew, sDisp, sLrg, sShr, iOf, iRan1, iRan2, bYes, Cn.d, B1.sem, rr_tup, rr_lst, rr_scr, rr_dct, rr_int, rr_str, rr_bl, rr_non, rr_ref, rr_f, rr_o, Rw.val, binD, cmpR, cmpD, ofB, List.replicate, b_at_once, inner, cm, eqD00]
                · have h1 : H p F = false := by
                    cases F with
                    | nil => exact absurd rfl h0
                    | cons _ _ => simpa using hc
                  simp [runF, S.sem, fSeq, fIf, fRet, fRetN, fSkip, fDrop, fAsg, fAsgT, fPar, fPar3, asgRw, fFor, fMut, fPut, fUpd, E.v, E.a, E.i, E.o, E.c, sVar, sCon, sTup, sLst, aNil, aCons, vl, vv, sOp1, sOp2, sB, bE, bNot, bAnd, bOr, sAnd, sOr, sIte, sChn, sSl, oNone, oSome, sCall, sPop, sDnew, sDisp, sLrg, sShr, iOf, iRan1, iRan2, bYes, Cn.d, B1.sem, rr_tup, rr_lst, rr_scr, rr_dct, rr_int, rr_str, rr_bl, rr_non, rr_ref, rr_f, rr_o, Rw.val, binD, cmpR, cmpD, ofB, List.replicate, b_at_once, inner, cm, hq, h0, hh, h1])
          rw [find_map] at e3
          cases hf : p.2.asks.findSome? fun a => hit H p kp a with
          | some r =>
            rw [hf] at e3
            show (inner (inner b_at_once)).sem (callN T (k + 3)) _ ah = some (.rt (rH r) ah)
            simp only [Option.map_some] at e3
            simp [runF, S.sem, fSeq, fIf, fRet, fRetN, fSkip, fDrop, fAsg, fAsgT, fPar, fPar3, asgRw, fFor, fMut, fPut, fUpd, E.v, E.a, E.i, E.o, E.c, sVar, sCon, sTup, sLst, aNil, aCons, vl, vv, sOp1, sOp2, sB, bE, bNot, bAnd, bOr, sAnd, sOr, sIte, sChn, sSl, oNone, oSome, sCall, sPop, sDnew, sDisp, sLrg, sShr, iOf, iRan1, iRan2, bYes, Cn.d, B1.sem, rr_tup, rr_lst, rr_scr, rr_dct, rr_int, rr_str, rr_bl, rr_non, rr_ref, rr_f, rr_o, Rw.val, binD, cmpR, cmpD, ofB, List.replicate, b_at_once, inner, atI2, ixD] at e3 ⊢
            rw [e3]
            rfl
          | none =>
            rw [hf] at e3
            obtain ⟨env', e3, y7, y8, rfl⟩ := e3
            refine ⟨[.va (eSky many bells storms), .va (ePl b pages), .va (.str m), .va (tI p.1), .va (eK p.2), .va (.lst ((lat p).map tI)), .va (tI kp), y7, y8], ?_, _, _, _, rfl⟩
            simp [runF, S.sem, fSeq, fIf, fRet, fRetN, fSkip, fDrop, fAsg, fAsgT, fPar, fPar3, asgRw, fFor, fMut, fPut, fUpd, E.v, E.a, E.i, E.o, E.c, sVar, sCon, sTup, sLst, aNil, aCons, vl, vv, sOp1, sOp2, sB, bE, bNot, bAnd, bOr, sAnd, sOr, sIte, sChn, sSl, oNone, oSome, sCall, sPop, sDnew, sDisp, sLrg, sShr, iOf, iRan1, iRan2, bYes, Cn.d, B1.sem, rr_tup, rr_lst, rr_scr, rr_dct, rr_int, rr_str, rr_bl, rr_non, rr_ref, rr_f, rr_o, Rw.val, binD, cmpR, cmpD, ofB, List.replicate, b_at_once, inner, atI2, ixD] at e3 ⊢
            rw [e3]
            rfl)
      rw [find_map] at e2
      have st : ∀ o, forGo (.nm 6) ((inner (inner b_at_once)).sem (callN T (k + 3))) (p.2.keeps.map tI) [.va (eSky many bells storms), .va (ePl b pages), .va (.str m), .va (tI p.1), .va (eK p.2), .va (.lst ((lat p).map tI)), x6, x7, x8] ah = some o →
          (inner b_at_once).sem (callN T (k + 3)) [.va (eSky many bells storms), .va (ePl b pages), .va (.str m), .va (tI p.1), .va (eK p.2), x5, x6, x7, x8] ah = some o := fun o ho => by
        have := hl p hpp
        by_cases hm : m = mSure
        · rw [if_pos hm] at this
          subst hm
          simp [runF, S.sem, fSeq, fIf, fRet, fRetN, fSkip, fDrop, fAsg, fAsgT, fPar, fPar3, asgRw, fFor, fMut, fPut, fUpd, E.v, E.a, E.i, E.o, E.c, sVar, sCon, sTup, sLst, aNil, aCons, vl, vv, sOp1, sOp2, sB, bE, bNot, bAnd, bOr, sAnd, sOr, sIte, sChn, sSl, oNone, oSome, sCall, sPop, sDnew, sDisp, sLrg, sShr, iOf, iRan1, iRan2, bYes, Cn.d, B1.sem, rr_tup, rr_lst, rr_scr, rr_dct, rr_int, rr_str, rr_bl, rr_non, rr_ref, rr_f, rr_o, Rw.val, binD, cmpR, cmpD, ofB, List.replicate, b_at_once, inner, eqD_str, this, atI3, ixD] at ho ⊢
          rw [ho]
          cases o <;> rfl
        · rw [if_neg hm] at this
          have hm' : ¬ m = { cps := #[115, 117, 114, 101] } := hm
          simp [runF, S.sem, fSeq, fIf, fRet, fRetN, fSkip, fDrop, fAsg, fAsgT, fPar, fPar3, asgRw, fFor, fMut, fPut, fUpd, E.v, E.a, E.i, E.o, E.c, sVar, sCon, sTup, sLst, aNil, aCons, vl, vv, sOp1, sOp2, sB, bE, bNot, bAnd, bOr, sAnd, sOr, sIte, sChn, sSl, oNone, oSome, sCall, sPop, sDnew, sDisp, sLrg, sShr, iOf, iRan1, iRan2, bYes, Cn.d, B1.sem, rr_tup, rr_lst, rr_scr, rr_dct, rr_int, rr_str, rr_bl, rr_non, rr_ref, rr_f, rr_o, Rw.val, binD, cmpR, cmpD, ofB, List.replicate, b_at_once, inner, eqD_str, hm', this, atI3, ixD] at ho ⊢
          rw [ho]
          cases o <;> rfl
      cases hf : p.2.keeps.findSome? fun kp => p.2.asks.findSome? fun a => hit H p kp a with
      | some r =>
        rw [hf] at e2
        exact st _ e2
      | none =>
        rw [hf] at e2
        obtain ⟨env', e2, y6, y7, y8, rfl⟩ := e2
        refine ⟨[.va (eSky many bells storms), .va (ePl b pages), .va (.str m), .va (tI p.1), .va (eK p.2), .va (.lst ((lat p).map tI)), y6, y7, y8], st _ e2, _, _, _, _, _, _, rfl⟩)
  rw [find_map] at e
  unfold hits
  cases hf : pages.findSome? fun p => p.2.keeps.findSome? fun kp => p.2.asks.findSome? fun a => hit H p kp a with
  | some r =>
    rw [hf] at e
    simp only [Option.map_some] at e
    simp [runF, S.sem, fSeq, fIf, fRet, fRetN, fSkip, fDrop, fAsg, fAsgT, fPar, fPar3, asgRw, fFor, fMut, fPut, fUpd, E.v, E.a, E.i, E.o, E.c, sVar, sCon, sTup, sLst, aNil, aCons, vl, vv, sOp1, sOp2, sB, bE, bNot, bAnd, bOr, sAnd, sOr, sIte, sChn, sSl, oNone, oSome, sCall, sPop, sDnew, sDisp, sLrg, sShr, iOf, iRan1, iRan2, bYes, Cn.d, B1.sem, rr_tup, rr_lst, rr_scr, rr_dct, rr_int, rr_str, rr_bl, rr_non, rr_ref, rr_f, rr_o, Rw.val, binD, cmpR, cmpD, ofB, List.replicate, b_at_once, inner, atI1, ixD] at e ⊢
    rw [e]
    rfl
  | none =>
    rw [hf] at e
    obtain ⟨env', e, y3, y4, y5, y6, y7, y8, rfl⟩ := e
    simp [runF, S.sem, fSeq, fIf, fRet, fRetN, fSkip, fDrop, fAsg, fAsgT, fPar, fPar3, asgRw, fFor, fMut, fPut, fUpd, E.v, E.a, E.i, E.o, E.c, sVar, sCon, sTup, sLst, aNil, aCons, vl, vv, sOp1, sOp2, sB, bE, bNot, bAnd, bOr, sAnd, sOr, sIte, sChn, sSl, oNone, oSome, sCall, sPop, sDnew, sDisp, sLrg, sShr, iOf, iRan1, iRan2, bYes, Cn.d, B1.sem, rr_tup, rr_lst, rr_scr, rr_dct, rr_int, rr_str, rr_bl, rr_non, rr_ref, rr_f, rr_o, Rw.val, binD, cmpR, cmpD, ofB, List.replicate, b_at_once, inner, atI1, ixD] at e ⊢
    rw [e]
    rfl
end U.k83
namespace U.k83
open PySem PySem.Spec PyProof.Rows L2 U
theorem fs_if {α β : Type} (b : α → Bool) (c : β) (xs : List α) : (xs.findSome? fun x => if b x = true then some c else none) = if xs.any b = true then some c else none := by
  induction xs with
  | nil => simp
  | cons x xs ih =>
    rw [List.findSome?_cons, List.any_cons]
    cases h : b x
    · simpa using ih
    · simp
/- a loop that may end with one answer -/
theorem for_if {α : Type} (enc : α → D) {t : Tg} {f : FS} {ah : AH} (J : Ev → Prop) (b : α → Bool) (c : Rw) {xs : List α} {env : Ev} (hj : J env)
    (h : ∀ x ∈ xs, ∀ env, J env → ∃ env1, bindT t (enc x) env = some env1 ∧ if b x = true then f env1 ah = some (.rt c ah) else ∃ env2, f env1 ah = some (.nx env2 ah) ∧ J env2) :
    if xs.any b = true then forGo t f (xs.map enc) env ah = some (.rt c ah) else ∃ env', forGo t f (xs.map enc) env ah = some (.nx env' ah) ∧ J env' := by
  have := for_find (G := Unit) enc (t := t) (f := f) (ah := ah) J (fun x => if b x = true then some c else none) (xs := xs) hj fun x hx env hj => by
    obtain ⟨env1, h1, h2⟩ := h x hx env hj
    refine ⟨env1, h1, ?_⟩
    by_cases hb : b x = true
    · rw [if_pos hb] at h2 ⊢
      exact h2
    · rw [if_neg hb] at h2 ⊢
      exact h2
  rw [fs_if] at this
  by_cases hb : xs.any b = true
  · rw [if_pos hb] at this ⊢
    exact this
  · rw [if_neg hb] at this ⊢
    exact this
abbrev eW (many : Int) (bells : List Int) (storms : List St2) (b : Bool) (pages : List Pg) (m : Str) : D := .tup [eSky many bells storms, ePl b pages, .str m, .int 0]
def bad1 (sh lot bl : List Int) : Bool := (sh.filter fun x => decide (x ∈ lot) && !decide (x ∈ bl)).isEmpty
def badP (storms : List St2) (rung sh : List Int) (p : Pg) : Bool := (p.2.asks.filter fun _ => sub rung p.1).any fun lot => (storms.filter fun s => sub p.1 s.1).any fun s => bad1 sh lot s.2
theorem dct_pages {pages : List Pg} (hp : WP pages) : dctD (.tup (pages.map ePg)) = some (.f (.dct (kvs eK pages))) := by
  have hl := hp.len
  have hb : big = 1000000 := rfl
  show (if (pages.map ePg).length ≤ big then (dputs [] (pages.map ePg)).map fun kvs => Rw.f (.dct kvs) else none) = _
  rw [if_pos (by rw [List.length_map]; omega)]
  have := dputs_kvs eK pages [] (by simpa using hp.nd) (by simp; omega)
  rw [show (kvs eK [] : List (D × D)) = [] from rfl] at this
  rw [this]
  rfl
theorem ends_oth {k : Nat} {many : Int} {bells rung : List Int} {storms : List St2} {b : Bool} {pages : List Pg} {m : Str} {sh : D} {ah : AH} (hm : m = mAlw ∨ m = mNev) (hp : WP pages) : callN T (k + 3) 21 [eW many bells storms b pages m, tI rung, sh] ah = some (.v (.bl (decide (m = mNev))), ah) := by
  rw [callN_at (fd := ⟨3, 16, b_law_ends_so⟩) rfl rfl]
  have dp := dct_pages hp
  rcases hm with rfl | rfl <;> simp [runF, S.sem, fSeq, fIf, fRet, fRetN, fSkip, fDrop, fAsg, fAsgT, fPar, fPar3, asgRw, fFor, fMut, fPut, fUpd, E.v, E.a, E.i, E.o, E.c, sVar, sCon, sTup, sLst, aNil, aCons, vl, vv, sOp1, sOp2, sB, bE, bNot, bAnd, bOr, sAnd, sOr, sIte, sChn, sSl, oNone, oSome, sCall, sPop, sDnew, sDisp, sLrg, sShr, iOf, iRan1, iRan2, bYes, Cn.d, B1.sem, rr_tup, rr_lst, rr_scr, rr_dct, rr_int, rr_str, rr_bl, rr_non, rr_ref, rr_f, rr_o, Rw.val, binD, cmpR, cmpD, ofB, List.replicate, b_law_ends_so, eqD_str, atI1, ixD, dp, bindT, bindTs, parts]
theorem ends_kept {k : Nat} {many : Int} {bells rung : List Int} {storms : List St2} {b : Bool} {pages : List Pg} {sh : List Int} {kd : Kd} {ah : AH} (hp : WP pages) (hf : pages.find? (fun p => decide (p.1 = rung)) = some (rung, kd)) (hk : WK kd) :
    callN T (k + 3) 21 [eW many bells storms b pages mKept, tI rung, .lst (sh.map .int)] ah = some (.v (.bl (kd.keeps.any fun l => sub l sh)), ah) := by
  rw [callN_at (fd := ⟨3, 16, b_law_ends_so⟩) rfl rfl]
  have dp := dct_pages hp
  have df := dfind_kvs eK pages rung
  have hf' : (pages.find? (fun p : Pg => decide (p.1 = rung))) = some (rung, kd) := hf
  rw [hf'] at df
  have hb : big = 1000000 := rfl
  have hl : callN T (k + 2) 20 [.tup (kd.keeps.map tI), .lst (sh.map .int)] ah = some (.v (.bl (kd.keeps.any fun l => sub l sh)), ah) := has_lot_t (b := false) (by have := hk.lk; omega) fun l hl => (hk.keeps l hl).len
  simp [runF, S.sem, fSeq, fIf, fRet, fRetN, fSkip, fDrop, fAsg, fAsgT, fPar, fPar3, asgRw, fFor, fMut, fPut, fUpd, E.v, E.a, E.i, E.o, E.c, sVar, sCon, sTup, sLst, aNil, aCons, vl, vv, sOp1, sOp2, sB, bE, bNot, bAnd, bOr, sAnd, sOr, sIte, sChn, sSl, oNone, oSome, sCall, sPop, sDnew, sDisp, sLrg, sShr, iOf, iRan1, iRan2, bYes, Cn.d, B1.sem, rr_tup, rr_lst, rr_scr, rr_dct, rr_int, rr_str, rr_bl, rr_non, rr_ref, rr_f, rr_o, Rw.val, binD, cmpR, cmpD, ofB, List.replicate, b_law_ends_so, eqD_str, atI1, atI3, ixD, dp, bindT, bindTs, parts, df, hl]
abbrev inn3 : S → S
  | .seq _ (.seq _ (.seq _ (.seq _ (.seq (.for _ _ b) _)))) => b
  | _ => .skip
def nO : Sl → Bool
  | .ow _ => false
  | _ => true
theorem ends_sure {k : Nat} {many : Int} {bells rung : List Int} {storms : List St2} {b : Bool} {pages : List Pg} {sh : List Int} {ah : AH} (hp : WP pages) (hs : WS storms) (hr : Row rung) (hsh : sh.length ≤ big) :
    callN T (k + 3) 21 [eW many bells storms b pages mSure, tI rung, .lst (sh.map .int)] ah = some (.v (.bl (!pages.any (badP storms rung sh))), ah) := by
  rw [callN_at (fd := ⟨3, 16, b_law_ends_so⟩) rfl rfl]
  have dp := dct_pages hp
  have hb : big = 1000000 := rfl
  have e := for_if ePg (t := .tp (.cons (.nm 8) (.cons (.nm 9) .nil))) (f := (inn3 b_law_ends_so).sem (callN T (k + 2))) (ah := ah)
    (fun env => ∃ x8 x9 x10 x11 x12, nO x12 = true ∧ env = [.va (eW many bells storms b pages mSure), .va (tI rung), .va (.lst (sh.map .int)), .va (eSky many bells storms), .va (ePl b pages), .va (.str mSure), .va (.int 0), .va (.dct (kvs eK pages)), x8, x9, x10, x11, x12, .un, .un, .un]) (badP storms rung sh) (.v (.bl false)) (xs := pages)
    (env := [.va (eW many bells storms b pages mSure), .va (tI rung), .va (.lst (sh.map .int)), .va (eSky many bells storms), .va (ePl b pages), .va (.str mSure), .va (.int 0), .va (.dct (kvs eK pages)), .un, .un, .un, .un, .un, .un, .un, .un]) ⟨_, _, _, _, _, rfl, rfl⟩
    (fun p hpp env ⟨x8, x9, x10, x11, x12, hn, he⟩ => by
      subst he
      refine ⟨[.va (eW many bells storms b pages mSure), .va (tI rung), .va (.lst (sh.map .int)), .va (eSky many bells storms), .va (ePl b pages), .va (.str mSure), .va (.int 0), .va (.dct (kvs eK pages)), .va (tI p.1), .va (eK p.2), x10, x11, x12, .un, .un, .un], rfl, ?_⟩
      have hk := hp.kd p hpp
      have rp := hp.rung p hpp
      have la := hk.la
      have ls := hs.len
      have now : ∀ (y : Sl), nO y = true → isOw [.va (eW many bells storms b pages mSure), .va (tI rung), .va (.lst (sh.map .int)), .va (eSky many bells storms), .va (ePl b pages), .va (.str mSure), .va (.int 0), .va (.dct (kvs eK pages)), .va (tI p.1), .va (eK p.2), x10, x11, y, .un, .un, .un] 12 = false := fun y hy => by cases y <;> first | rfl | cases hy
      have eA := ev_lc eP (G := callN T (k + 2)) (t := .tp (.cons (.nm 13) (.cons (.nm 12) .nil))) (vs := [13, 12]) (w := .it (.ix (.var 3) (.cn (.int 2)))) (c := .yes (.call 12 (.cons (.var 8) (.cons (.var 13) .nil)))) (e := .var 12)
        (env := [.va (eW many bells storms b pages mSure), .va (tI rung), .va (.lst (sh.map .int)), .va (eSky many bells storms), .va (ePl b pages), .va (.str mSure), .va (.int 0), .va (.dct (kvs eK pages)), .va (tI p.1), .va (eK p.2), x10, x11, x12, .un, .un, .un]) (ah := ah) (gu := none) (fun s => sub p.1 s.1) (fun s => tI s.2) (xs := storms) (by simp [runF, S.sem, fSeq, fIf, fRet, fRetN, fSkip, fDrop, fAsg, fAsgT, fPar, fPar3, asgRw, fFor, fMut, fPut, fUpd, E.v, E.a, E.i, E.o, E.c, sVar, sCon, sTup, sLst, aNil, aCons, vl, vv, sOp1, sOp2, sB, bE, bNot, bAnd, bOr, sAnd, sOr, sIte, sChn, sSl, oNone, oSome, sCall, sPop, sDnew, sDisp, sLrg, sShr, iOf, iRan1, iRan2, bYes, Cn.d, B1.sem, rr_tup, rr_lst, rr_scr, rr_dct, rr_int, rr_str, rr_bl, rr_non, rr_ref, rr_f, rr_o, Rw.val, binD, cmpR, cmpD, ofB, List.replicate, atI2, ixD]) (by
          have h12 := now x12 hn
          have h13 : isOw [.va (eW many bells storms b pages mSure), .va (tI rung), .va (.lst (sh.map .int)), .va (eSky many bells storms), .va (ePl b pages), .va (.str mSure), .va (.int 0), .va (.dct (kvs eK pages)), .va (tI p.1), .va (eK p.2), x10, x11, x12, .un, .un, .un] 13 = false := rfl
          simp [tgIn, noOw, h12, h13]; omega)
        (fun s hx => ⟨[.va (eW many bells storms b pages mSure), .va (tI rung), .va (.lst (sh.map .int)), .va (eSky many bells storms), .va (ePl b pages), .va (.str mSure), .va (.int 0), .va (.dct (kvs eK pages)), .va (tI p.1), .va (eK p.2), x10, x11, .va (tI s.2), .va (tI s.1), .un, .un], rfl, by
          have := is_in_t (k := k + 1) (a := true) (b := true) (xs := p.1) (ys := s.1) (ah := ah) rp.len
          simp only [show ∀ z, sq true z = tI z from fun _ => rfl] at this
          simp [runF, S.sem, fSeq, fIf, fRet, fRetN, fSkip, fDrop, fAsg, fAsgT, fPar, fPar3, asgRw, fFor, fMut, fPut, fUpd, E.v, E.a, E.i, E.o, E.c, sVar, sCon, sTup, sLst, aNil, aCons, vl, vv, sOp1, sOp2, sB, bE, bNot, bAnd, bOr, sAnd, sOr, sIte, sChn, sSl, oNone, oSome, sCall, sPop, sDnew, sDisp, sLrg, sShr, iOf, iRan1, iRan2, bYes, Cn.d, B1.sem, rr_tup, rr_lst, rr_scr, rr_dct, rr_int, rr_str, rr_bl, rr_non, rr_ref, rr_f, rr_o, Rw.val, binD, cmpR, cmpD, ofB, List.replicate, this], fun _ => by simp [runF, S.sem, fSeq, fIf, fRet, fRetN, fSkip, fDrop, fAsg, fAsgT, fPar, fPar3, asgRw, fFor, fMut, fPut, fUpd, E.v, E.a, E.i, E.o, E.c, sVar, sCon, sTup, sLst, aNil, aCons, vl, vv, sOp1, sOp2, sB, bE, bNot, bAnd, bOr, sAnd, sOr, sIte, sChn, sSl, oNone, oSome, sCall, sPop, sDnew, sDisp, sLrg, sShr, iOf, iRan1, iRan2, bYes, Cn.d, B1.sem, rr_tup, rr_lst, rr_scr, rr_dct, rr_int, rr_str, rr_bl, rr_non, rr_ref, rr_f, rr_o, Rw.val, binD, cmpR, cmpD, ofB, List.replicate]⟩)
      have e2 := for_if tI (t := .nm 11) (f := (inner (inn3 b_law_ends_so)).sem (callN T (k + 2))) (ah := ah)
        (fun env => ∃ x11 x12, nO x12 = true ∧ env = [.va (eW many bells storms b pages mSure), .va (tI rung), .va (.lst (sh.map .int)), .va (eSky many bells storms), .va (ePl b pages), .va (.str mSure), .va (.int 0), .va (.dct (kvs eK pages)), .va (tI p.1), .va (eK p.2), .va (.lst ((storms.filter fun s => sub p.1 s.1).map fun s => tI s.2)), x11, x12, .un, .un, .un]) (fun lot => (storms.filter fun s => sub p.1 s.1).any fun s => bad1 sh lot s.2) (.v (.bl false)) (xs := p.2.asks.filter fun _ => sub rung p.1)
        (env := [.va (eW many bells storms b pages mSure), .va (tI rung), .va (.lst (sh.map .int)), .va (eSky many bells storms), .va (ePl b pages), .va (.str mSure), .va (.int 0), .va (.dct (kvs eK pages)), .va (tI p.1), .va (eK p.2), .va (.lst ((storms.filter fun s => sub p.1 s.1).map fun s => tI s.2)), x11, x12, .un, .un, .un]) ⟨_, _, hn, rfl⟩
        (fun lot hlot env ⟨x11, x12, hn, he⟩ => by
          subst he
          refine ⟨[.va (eW many bells storms b pages mSure), .va (tI rung), .va (.lst (sh.map .int)), .va (eSky many bells storms), .va (ePl b pages), .va (.str mSure), .va (.int 0), .va (.dct (kvs eK pages)), .va (tI p.1), .va (eK p.2), .va (.lst ((storms.filter fun s => sub p.1 s.1).map fun s => tI s.2)), .va (tI lot), x12, .un, .un, .un], rfl, ?_⟩
          have e3 := for_if (fun s : St2 => tI s.2) (t := .nm 12) (f := (inner (inner (inn3 b_law_ends_so))).sem (callN T (k + 2))) (ah := ah)
            (fun env => ∃ x12, nO x12 = true ∧ env = [.va (eW many bells storms b pages mSure), .va (tI rung), .va (.lst (sh.map .int)), .va (eSky many bells storms), .va (ePl b pages), .va (.str mSure), .va (.int 0), .va (.dct (kvs eK pages)), .va (tI p.1), .va (eK p.2), .va (.lst ((storms.filter fun s => sub p.1 s.1).map fun s => tI s.2)), .va (tI lot), x12, .un, .un, .un]) (fun s => bad1 sh lot s.2) (.v (.bl false)) (xs := storms.filter fun s => sub p.1 s.1)
            (env := [.va (eW many bells storms b pages mSure), .va (tI rung), .va (.lst (sh.map .int)), .va (eSky many bells storms), .va (ePl b pages), .va (.str mSure), .va (.int 0), .va (.dct (kvs eK pages)), .va (tI p.1), .va (eK p.2), .va (.lst ((storms.filter fun s => sub p.1 s.1).map fun s => tI s.2)), .va (tI lot), x12, .un, .un, .un]) ⟨_, hn, rfl⟩
            (fun s hss env ⟨x12, hn, he⟩ => by
              subst he
              refine ⟨[.va (eW many bells storms b pages mSure), .va (tI rung), .va (.lst (sh.map .int)), .va (eSky many bells storms), .va (ePl b pages), .va (.str mSure), .va (.int 0), .va (.dct (kvs eK pages)), .va (tI p.1), .va (eK p.2), .va (.lst ((storms.filter fun s => sub p.1 s.1).map fun s => tI s.2)), .va (tI lot), .va (tI s.2), .un, .un, .un], rfl, ?_⟩
              have eC := ev_lc D.int (G := callN T (k + 2)) (t := .nm 15) (vs := [15]) (w := .it (.var 2)) (c := .yes (.and (.cmp .In (.var 15) (.var 11)) (.cmp .NotIn (.var 15) (.var 12)))) (e := .var 15)
                (env := [.va (eW many bells storms b pages mSure), .va (tI rung), .va (.lst (sh.map .int)), .va (eSky many bells storms), .va (ePl b pages), .va (.str mSure), .va (.int 0), .va (.dct (kvs eK pages)), .va (tI p.1), .va (eK p.2), .va (.lst ((storms.filter fun s => sub p.1 s.1).map fun s => tI s.2)), .va (tI lot), .va (tI s.2), .un, .un, .un]) (ah := ah) (gu := none) (fun x => decide (x ∈ lot) && !decide (x ∈ s.2)) D.int (xs := sh) rfl (by simp [tgIn, noOw, isOw, hsh])
                (fun x hx => ⟨[.va (eW many bells storms b pages mSure), .va (tI rung), .va (.lst (sh.map .int)), .va (eSky many bells storms), .va (ePl b pages), .va (.str mSure), .va (.int 0), .va (.dct (kvs eK pages)), .va (tI p.1), .va (eK p.2), .va (.lst ((storms.filter fun s => sub p.1 s.1).map fun s => tI s.2)), .va (tI lot), .va (tI s.2), .un, .un, .va (.int x)], rfl, by
                  by_cases hx1 : x ∈ lot <;> simp [runF, S.sem, fSeq, fIf, fRet, fRetN, fSkip, fDrop, fAsg, fAsgT, fPar, fPar3, asgRw, fFor, fMut, fPut, fUpd, E.v, E.a, E.i, E.o, E.c, sVar, sCon, sTup, sLst, aNil, aCons, vl, vv, sOp1, sOp2, sB, bE, bNot, bAnd, bOr, sAnd, sOr, sIte, sChn, sSl, oNone, oSome, sCall, sPop, sDnew, sDisp, sLrg, sShr, iOf, iRan1, iRan2, bYes, Cn.d, B1.sem, rr_tup, rr_lst, rr_scr, rr_dct, rr_int, rr_str, rr_bl, rr_non, rr_ref, rr_f, rr_o, Rw.val, binD, cmpR, cmpD, ofB, List.replicate, inD_tI, hx1], fun _ => by simp [runF, S.sem, fSeq, fIf, fRet, fRetN, fSkip, fDrop, fAsg, fAsgT, fPar, fPar3, asgRw, fFor, fMut, fPut, fUpd, E.v, E.a, E.i, E.o, E.c, sVar, sCon, sTup, sLst, aNil, aCons, vl, vv, sOp1, sOp2, sB, bE, bNot, bAnd, bOr, sAnd, sOr, sIte, sChn, sSl, oNone, oSome, sCall, sPop, sDnew, sDisp, sLrg, sShr, iOf, iRan1, iRan2, bYes, Cn.d, B1.sem, rr_tup, rr_lst, rr_scr, rr_dct, rr_int, rr_str, rr_bl, rr_non, rr_ref, rr_f, rr_o, Rw.val, binD, cmpR, cmpD, ofB, List.replicate]⟩)
              simp [E.v, E.a, E.i, E.o, E.c, Cn.d, B1.sem] at eC
              have hq := eqD_lst0 _ (flats_int 59 (sh.filter fun x => decide (x ∈ lot) && !decide (x ∈ s.2)))
              have hq2 : (List.map D.int (sh.filter fun x => decide (x ∈ lot) && !decide (x ∈ s.2))).isEmpty = bad1 sh lot s.2 := by rw [List.isEmpty_map]; rfl
              rw [hq2] at hq
              by_cases hb1 : bad1 sh lot s.2 = true
              · rw [if_pos hb1]
                rw [hb1] at hq
                simp [runF, S.sem, fSeq, fIf, fRet, fRetN, fSkip, fDrop, fAsg, fAsgT, fPar, fPar3, asgRw, fFor, fMut, fPut, fUpd, E.v, E.a, E.i, E.o, E.c, sVar, sCon, sTup, sLst, aNil, aCons, vl, vv, sOp1, sOp2, sB, bE, bNot, bAnd, bOr, sAnd, sOr, sIte, sChn, sSl, oNone, oSome, sCall, sPop, sDnew, sDisp, sLrg, sShr, iOf, iRan1, iRan2, bYes, Cn.d, B1.sem, rr_tup, rr_lst, rr_scr, rr_dct, rr_int, rr_str, rr_bl, rr_non, rr_ref, rr_f, rr_o, Rw.val, binD, cmpR, cmpD, ofB, List.replicate, b_law_ends_so, inner, inn3, eC, hq]
              · rw [if_neg hb1]
                have hb2 : bad1 sh lot s.2 = false := by simpa using hb1
                rw [hb2] at hq
                exact ⟨[.va (eW many bells storms b pages mSure), .va (tI rung), .va (.lst (sh.map .int)), .va (eSky many bells storms), .va (ePl b pages), .va (.str mSure), .va (.int 0), .va (.dct (kvs eK pages)), .va (tI p.1), .va (eK p.2), .va (.lst ((storms.filter fun s => sub p.1 s.1).map fun s => tI s.2)), .va (tI lot), .va (tI s.2), .un, .un, .un], by simp [runF, S.sem, fSeq, fIf, fRet, fRetN, fSkip, fDrop, fAsg, fAsgT, fPar, fPar3, asgRw, fFor, fMut, fPut, fUpd, E.v, E.a, E.i, E.o, E.c, sVar, sCon, sTup, sLst, aNil, aCons, vl, vv, sOp1, sOp2, sB, bE, bNot, bAnd, bOr, sAnd, sOr, sIte, sChn, sSl, oNone, oSome, sCall, sPop, sDnew, sDisp, sLrg, sShr, iOf, iRan1, iRan2, bYes, Cn.d, B1.sem, rr_tup, rr_lst, rr_scr, rr_dct, rr_int, rr_str, rr_bl, rr_non, rr_ref, rr_f, rr_o, Rw.val, binD, cmpR, cmpD, ofB, List.replicate, b_law_ends_so, inner, inn3, eC, hq], _, rfl, rfl⟩)
          by_cases hb1 : ((storms.filter fun s => sub p.1 s.1).any fun s => bad1 sh lot s.2) = true
          · rw [if_pos hb1] at e3 ⊢
            simp [runF, S.sem, fSeq, fIf, fRet, fRetN, fSkip, fDrop, fAsg, fAsgT, fPar, fPar3, asgRw, fFor, fMut, fPut, fUpd, E.v, E.a, E.i, E.o, E.c, sVar, sCon, sTup, sLst, aNil, aCons, vl, vv, sOp1, sOp2, sB, bE, bNot, bAnd, bOr, sAnd, sOr, sIte, sChn, sSl, oNone, oSome, sCall, sPop, sDnew, sDisp, sLrg, sShr, iOf, iRan1, iRan2, bYes, Cn.d, B1.sem, rr_tup, rr_lst, rr_scr, rr_dct, rr_int, rr_str, rr_bl, rr_non, rr_ref, rr_f, rr_o, Rw.val, binD, cmpR, cmpD, ofB, List.replicate, b_law_ends_so, inner, inn3] at e3 ⊢
            rw [e3]
            rfl
          · rw [if_neg hb1] at e3 ⊢
            obtain ⟨env', e3, y12, hy, rfl⟩ := e3
            refine ⟨[.va (eW many bells storms b pages mSure), .va (tI rung), .va (.lst (sh.map .int)), .va (eSky many bells storms), .va (ePl b pages), .va (.str mSure), .va (.int 0), .va (.dct (kvs eK pages)), .va (tI p.1), .va (eK p.2), .va (.lst ((storms.filter fun s => sub p.1 s.1).map fun s => tI s.2)), .va (tI lot), y12, .un, .un, .un], ?_, _, _, hy, rfl⟩
            simp [runF, S.sem, fSeq, fIf, fRet, fRetN, fSkip, fDrop, fAsg, fAsgT, fPar, fPar3, asgRw, fFor, fMut, fPut, fUpd, E.v, E.a, E.i, E.o, E.c, sVar, sCon, sTup, sLst, aNil, aCons, vl, vv, sOp1, sOp2, sB, bE, bNot, bAnd, bOr, sAnd, sOr, sIte, sChn, sSl, oNone, oSome, sCall, sPop, sDnew, sDisp, sLrg, sShr, iOf, iRan1, iRan2, bYes, Cn.d, B1.sem, rr_tup, rr_lst, rr_scr, rr_dct, rr_int, rr_str, rr_bl, rr_non, rr_ref, rr_f, rr_o, Rw.val, binD, cmpR, cmpD, ofB, List.replicate, b_law_ends_so, inner, inn3] at e3 ⊢
            rw [e3]
            rfl)
      have eB := ev_lc tI (G := callN T (k + 2)) (t := .nm 14) (vs := [14]) (w := .it (.ix (.var 9) (.cn (.int 2)))) (c := .yes (.call 12 (.cons (.var 1) (.cons (.var 8) .nil)))) (e := .var 14)
        (env := [.va (eW many bells storms b pages mSure), .va (tI rung), .va (.lst (sh.map .int)), .va (eSky many bells storms), .va (ePl b pages), .va (.str mSure), .va (.int 0), .va (.dct (kvs eK pages)), .va (tI p.1), .va (eK p.2), .va (.lst ((storms.filter fun s => sub p.1 s.1).map fun s => tI s.2)), x11, x12, .un, .un, .un]) (ah := ah) (gu := none) (fun _ => sub rung p.1) tI (xs := p.2.asks) (by simp [runF, S.sem, fSeq, fIf, fRet, fRetN, fSkip, fDrop, fAsg, fAsgT, fPar, fPar3, asgRw, fFor, fMut, fPut, fUpd, E.v, E.a, E.i, E.o, E.c, sVar, sCon, sTup, sLst, aNil, aCons, vl, vv, sOp1, sOp2, sB, bE, bNot, bAnd, bOr, sAnd, sOr, sIte, sChn, sSl, oNone, oSome, sCall, sPop, sDnew, sDisp, sLrg, sShr, iOf, iRan1, iRan2, bYes, Cn.d, B1.sem, rr_tup, rr_lst, rr_scr, rr_dct, rr_int, rr_str, rr_bl, rr_non, rr_ref, rr_f, rr_o, Rw.val, binD, cmpR, cmpD, ofB, List.replicate, atI2, ixD]) (by simp [tgIn, noOw, isOw]; omega)
        (fun a hx => ⟨[.va (eW many bells storms b pages mSure), .va (tI rung), .va (.lst (sh.map .int)), .va (eSky many bells storms), .va (ePl b pages), .va (.str mSure), .va (.int 0), .va (.dct (kvs eK pages)), .va (tI p.1), .va (eK p.2), .va (.lst ((storms.filter fun s => sub p.1 s.1).map fun s => tI s.2)), x11, x12, .un, .va (tI a), .un], rfl, by
          have := is_in_t (k := k + 1) (a := true) (b := true) (xs := rung) (ys := p.1) (ah := ah) hr.len
          simp only [show ∀ z, sq true z = tI z from fun _ => rfl] at this
          simp [runF, S.sem, fSeq, fIf, fRet, fRetN, fSkip, fDrop, fAsg, fAsgT, fPar, fPar3, asgRw, fFor, fMut, fPut, fUpd, E.v, E.a, E.i, E.o, E.c, sVar, sCon, sTup, sLst, aNil, aCons, vl, vv, sOp1, sOp2, sB, bE, bNot, bAnd, bOr, sAnd, sOr, sIte, sChn, sSl, oNone, oSome, sCall, sPop, sDnew, sDisp, sLrg, sShr, iOf, iRan1, iRan2, bYes, Cn.d, B1.sem, rr_tup, rr_lst, rr_scr, rr_dct, rr_int, rr_str, rr_bl, rr_non, rr_ref, rr_f, rr_o, Rw.val, binD, cmpR, cmpD, ofB, List.replicate, this], fun _ => by simp [runF, S.sem, fSeq, fIf, fRet, fRetN, fSkip, fDrop, fAsg, fAsgT, fPar, fPar3, asgRw, fFor, fMut, fPut, fUpd, E.v, E.a, E.i, E.o, E.c, sVar, sCon, sTup, sLst, aNil, aCons, vl, vv, sOp1, sOp2, sB, bE, bNot, bAnd, bOr, sAnd, sOr, sIte, sChn, sSl, oNone, oSome, sCall, sPop, sDnew, sDisp, sLrg, sShr, iOf, iRan1, iRan2, bYes, Cn.d, B1.sem, rr_tup, rr_lst, rr_scr, rr_dct, rr_int, rr_str, rr_bl, rr_non, rr_ref, rr_f, rr_o, Rw.val, binD, cmpR, cmpD, ofB, List.replicate]⟩)
      simp [E.v, E.a, E.i, E.o, E.c, Cn.d, B1.sem] at eA eB
      have st : ∀ o, forGo (.nm 11) ((inner (inn3 b_law_ends_so)).sem (callN T (k + 2))) ((p.2.asks.filter fun _ => sub rung p.1).map tI) [.va (eW many bells storms b pages mSure), .va (tI rung), .va (.lst (sh.map .int)), .va (eSky many bells storms), .va (ePl b pages), .va (.str mSure), .va (.int 0), .va (.dct (kvs eK pages)), .va (tI p.1), .va (eK p.2), .va (.lst ((storms.filter fun s => sub p.1 s.1).map fun s => tI s.2)), x11, x12, .un, .un, .un] ah = some o →
          (inn3 b_law_ends_so).sem (callN T (k + 2)) [.va (eW many bells storms b pages mSure), .va (tI rung), .va (.lst (sh.map .int)), .va (eSky many bells storms), .va (ePl b pages), .va (.str mSure), .va (.int 0), .va (.dct (kvs eK pages)), .va (tI p.1), .va (eK p.2), x10, x11, x12, .un, .un, .un] ah = some o := fun o ho => by
        simp [runF, S.sem, fSeq, fIf, fRet, fRetN, fSkip, fDrop, fAsg, fAsgT, fPar, fPar3, asgRw, fFor, fMut, fPut, fUpd, E.v, E.a, E.i, E.o, E.c, sVar, sCon, sTup, sLst, aNil, aCons, vl, vv, sOp1, sOp2, sB, bE, bNot, bAnd, bOr, sAnd, sOr, sIte, sChn, sSl, oNone, oSome, sCall, sPop, sDnew, sDisp, sLrg, sShr, iOf, iRan1, iRan2, bYes, Cn.d, B1.sem, rr_tup, rr_lst, rr_scr, rr_dct, rr_int, rr_str, rr_bl, rr_non, rr_ref, rr_f, rr_o, Rw.val, binD, cmpR, cmpD, ofB, List.replicate, b_law_ends_so, inner, inn3, eA, eB] at ho ⊢
        rw [ho]
        cases o <;> rfl
      by_cases hb1 : badP storms rung sh p = true
      · rw [if_pos hb1]
        rw [if_pos (show ((p.2.asks.filter fun _ => sub rung p.1).any fun lot => (storms.filter fun s => sub p.1 s.1).any fun s => bad1 sh lot s.2) = true from hb1)] at e2
        exact st _ e2
      · rw [if_neg hb1]
        rw [if_neg (show ¬ ((p.2.asks.filter fun _ => sub rung p.1).any fun lot => (storms.filter fun s => sub p.1 s.1).any fun s => bad1 sh lot s.2) = true from hb1)] at e2
        obtain ⟨env', e2, y11, y12, hy, rfl⟩ := e2
        exact ⟨_, st _ e2, _, _, _, _, _, hy, rfl⟩)
  cases hb1 : pages.any (badP storms rung sh) with
  | true =>
    rw [if_pos hb1] at e
    simp [runF, S.sem, fSeq, fIf, fRet, fRetN, fSkip, fDrop, fAsg, fAsgT, fPar, fPar3, asgRw, fFor, fMut, fPut, fUpd, E.v, E.a, E.i, E.o, E.c, sVar, sCon, sTup, sLst, aNil, aCons, vl, vv, sOp1, sOp2, sB, bE, bNot, bAnd, bOr, sAnd, sOr, sIte, sChn, sSl, oNone, oSome, sCall, sPop, sDnew, sDisp, sLrg, sShr, iOf, iRan1, iRan2, bYes, Cn.d, B1.sem, rr_tup, rr_lst, rr_scr, rr_dct, rr_int, rr_str, rr_bl, rr_non, rr_ref, rr_f, rr_o, Rw.val, binD, cmpR, cmpD, ofB, List.replicate, b_law_ends_so, inn3, eqD_str, atI1, ixD, dp, bindT, bindTs, parts] at e ⊢
    rw [e]
    rfl
  | false =>
    rw [if_neg (by rw [hb1]; exact Bool.false_ne_true)] at e
    obtain ⟨env', e, y8, y9, y10, y11, y12, hy, rfl⟩ := e
    simp [runF, S.sem, fSeq, fIf, fRet, fRetN, fSkip, fDrop, fAsg, fAsgT, fPar, fPar3, asgRw, fFor, fMut, fPut, fUpd, E.v, E.a, E.i, E.o, E.c, sVar, sCon, sTup, sLst, aNil, aCons, vl, vv, sOp1, sOp2, sB, bE, bNot, bAnd, bOr, sAnd, sOr, sIte, sChn, sSl, oNone, oSome, sCall, sPop, sDnew, sDisp, sLrg, sShr, iOf, iRan1, iRan2, bYes, Cn.d, B1.sem, rr_tup, rr_lst, rr_scr, rr_dct, rr_int, rr_str, rr_bl, rr_non, rr_ref, rr_f, rr_o, Rw.val, binD, cmpR, cmpD, ofB, List.replicate, b_law_ends_so, inn3, eqD_str, atI1, ixD, dp, bindT, bindTs, parts] at e ⊢
    rw [e]
    rfl
end U.k83
namespace U.k83
open PySem PySem.Spec PyProof.Rows L2 U
theorem due_t {k : Nat} {many : Int} {bells : List Int} {storms : List St2} {b : Bool} {pages : List Pg} {m : Str} {ah : AH} (H : Pg → List Int → Bool) (hp : WP pages)
    (hH : ∀ p ∈ pages, ∀ sm, Row sm → callN T (k + 3) 21 [eW many bells storms b pages m, tI p.1, .lst (sm.map .int)] ah = some (.v (.bl (!H p sm)), ah)) :
    callN T (k + 4) 22 [eW many bells storms b pages m] ah = some (.v (eHo (hits H pages)), ah) := by
  rw [callN_at (fd := ⟨1, 11, b_law_due⟩) rfl rfl]
  have e := for_find (G := Unit) ePg (t := .tp (.cons (.nm 5) (.cons (.nm 6) .nil))) (f := (inner b_law_due).sem (callN T (k + 3))) (ah := ah) (fun env => ∃ x5 x6 x7 x8 x9, env = [.va (eW many bells storms b pages m), .va (eSky many bells storms), .va (ePl b pages), .va (.str m), .va (.int 0), x5, x6, x7, x8, x9, .un])
    (fun p => (p.2.keeps.findSome? fun kp => p.2.asks.findSome? fun a => hit H p kp a).map rH) (xs := pages) (env := [.va (eW many bells storms b pages m), .va (eSky many bells storms), .va (ePl b pages), .va (.str m), .va (.int 0), .un, .un, .un, .un, .un, .un]) ⟨_, _, _, _, _, rfl⟩
    (fun p hpp env ⟨x5, x6, x7, x8, x9, he⟩ => by
      subst he
      refine ⟨[.va (eW many bells storms b pages m), .va (eSky many bells storms), .va (ePl b pages), .va (.str m), .va (.int 0), .va (tI p.1), .va (eK p.2), x7, x8, x9, .un], rfl, ?_⟩
      have hk := hp.kd p hpp
      have e2 := for_find (G := Unit) tI (t := .nm 7) (f := (inner (inner b_law_due)).sem (callN T (k + 3))) (ah := ah) (fun env => ∃ x7 x8 x9, env = [.va (eW many bells storms b pages m), .va (eSky many bells storms), .va (ePl b pages), .va (.str m), .va (.int 0), .va (tI p.1), .va (eK p.2), x7, x8, x9, .un])
        (fun kp => (p.2.asks.findSome? fun a => hit H p kp a).map rH) (xs := p.2.keeps) (env := [.va (eW many bells storms b pages m), .va (eSky many bells storms), .va (ePl b pages), .va (.str m), .va (.int 0), .va (tI p.1), .va (eK p.2), x7, x8, x9, .un]) ⟨_, _, _, rfl⟩
        (fun kp hkp env ⟨x7, x8, x9, he⟩ => by
          subst he
          refine ⟨[.va (eW many bells storms b pages m), .va (eSky many bells storms), .va (ePl b pages), .va (.str m), .va (.int 0), .va (tI p.1), .va (eK p.2), .va (tI kp), x8, x9, .un], rfl, ?_⟩
          have rk := hk.keeps kp hkp
          have e3 := for_find (G := Unit) tI (t := .nm 8) (f := (inner (inner (inner b_law_due))).sem (callN T (k + 3))) (ah := ah) (fun env => ∃ x8 x9, env = [.va (eW many bells storms b pages m), .va (eSky many bells storms), .va (ePl b pages), .va (.str m), .va (.int 0), .va (tI p.1), .va (eK p.2), .va (tI kp), x8, x9, .un])
            (fun a => (hit H p kp a).map rH) (xs := p.2.asks) (env := [.va (eW many bells storms b pages m), .va (eSky many bells storms), .va (ePl b pages), .va (.str m), .va (.int 0), .va (tI p.1), .va (eK p.2), .va (tI kp), x8, x9, .un]) ⟨_, _, rfl⟩
            (fun a ha env ⟨x8, x9, he⟩ => by
              subst he
              refine ⟨[.va (eW many bells storms b pages m), .va (eSky many bells storms), .va (ePl b pages), .va (.str m), .va (.int 0), .va (tI p.1), .va (eK p.2), .va (tI kp), .va (tI a), x9, .un], rfl, ?_⟩
              have eC := ev_lc D.int (G := callN T (k + 3)) (t := .nm 10) (vs := [10]) (w := .it (.var 7)) (c := .yes (.cmp .In (.var 10) (.var 8))) (e := .var 10)
                (env := [.va (eW many bells storms b pages m), .va (eSky many bells storms), .va (ePl b pages), .va (.str m), .va (.int 0), .va (tI p.1), .va (eK p.2), .va (tI kp), .va (tI a), x9, .un]) (ah := ah) (gu := none) (fun x => decide (x ∈ a)) D.int (xs := kp) rfl (by have := rk.len; simp [tgIn, noOw, isOw, this])
                (fun x hx => ⟨[.va (eW many bells storms b pages m), .va (eSky many bells storms), .va (ePl b pages), .va (.str m), .va (.int 0), .va (tI p.1), .va (eK p.2), .va (tI kp), .va (tI a), x9, .va (.int x)], rfl, by simp [runF, S.sem, fSeq, fIf, fRet, fRetN, fSkip, fDrop, fAsg, fAsgT, fPar, fPar3, asgRw, fFor, fMut, fPut, fUpd, E.v, E.a, E.i, E.o, E.c, sVar, sCon, sTup, sLst, aNil, aCons, vl, vv, sOp1, sOp2, sB, bE, bNot, bAnd, bOr, sAnd, sOr, sIte, sChn, sSl, oNone, oSome, sCall, sPop, sDnew, sDisp, sLrg, sShr, iOf, iRan1, iRan2, bYes, Cn.d, B1.sem, rr_tup, rr_lst, rr_scr, rr_dct, rr_int, rr_str, rr_bl, rr_non, rr_ref, rr_f, rr_o, Rw.val, binD, cmpR, cmpD, ofB, List.replicate, inD_tI], fun _ => by simp [runF, S.sem, fSeq, fIf, fRet, fRetN, fSkip, fDrop, fAsg, fAsgT, fPar, fPar3, asgRw, fFor, fMut, fPut, fUpd, E.v, E.a, E.i, E.o, E.c, sVar, sCon, sTup, sLst, aNil, aCons, vl, vv, sOp1, sOp2, sB, bE, bNot, bAnd, bOr, sAnd, sOr, sIte, sChn, sSl, oNone, oSome, sCall, sPop, sDnew, sDisp, sLrg, sShr, iOf, iRan1, iRan2, bYes, Cn.d, B1.sem, rr_tup, rr_lst, rr_scr, rr_dct, rr_int, rr_str, rr_bl, rr_non, rr_ref, rr_f, rr_o, Rw.val, binD, cmpR, cmpD, ofB, List.replicate]⟩)
              have hh := hH p hpp (kp.filter fun x => decide (x ∈ a)) (rk.filter _)
              have hq := eqD_lst0 _ (flats_int 59 (kp.filter fun x => decide (x ∈ a)))
              simp [E.v, E.a, E.i, E.o, E.c, Cn.d, B1.sem] at eC
              generalize hF : (kp.filter fun x => decide (x ∈ a)) = F at eC hh hq
              have hq : eqD (.lst (F.map .int)) (.lst []) = some F.isEmpty := by rw [hq, List.isEmpty_map]
              by_cases hc : (!F.isEmpty && H p F) = true
              · rw [hit, hF, if_pos hc]
                simp only [Bool.and_eq_true, Bool.not_eq_true'] at hc
                rw [hc.1] at hq
                rw [hc.2] at hh
                show (inner (inner (inner b_law_due))).sem (callN T (k + 3)) _ ah = some (.rt (rH (p.1, kp, a)) ah)
                simp [runF, S.sem, fSeq, fIf, fRet, fRetN, fSkip, fDrop, fAsg, fAsgT, fPar, fPar3, asgRw, fFor, fMut, fPut, fUpd, E.v, E.a, E.i, E.o, E.c, sVar, sCon, sTup, sLst, aNil, aCons, vl, vv, sOp1, sOp2, sB, bE, bNot, bAnd, bOr, sAnd, sOr, sIte, sChn, sSl, oNone, oSome, sCall, sPop, sDnew, sDisp, sLrg, sShr, iOf, iRan1, iRan2, bYes, Cn.d, B1.sem, rr_tup, rr_lst, rr_scr, rr_dct, rr_int, rr_str, rr_bl, rr_non, rr_ref, rr_f, rr_o, Rw.val, binD, cmpR, cmpD, ofB, List.replicate, b_law_due, inner, eC, hq, hh, big, eH]
              · rw [hit, hF, if_neg hc]
                refine ⟨[.va (eW many bells storms b pages m), .va (eSky many bells storms), .va (ePl b pages), .va (.str m), .va (.int 0), .va (tI p.1), .va (eK p.2), .va (tI kp), .va (tI a), .va (.lst (F.map .int)), .un], ?_, _, _, rfl⟩
                by_cases h0 : F.isEmpty = true
                · rw [h0] at hq
                  simp [runF, S.sem, fSeq, fIf, fRet, fRetN, fSkip, fDrop, fAsg, fAsgT, fPar, fPar3, asgRw, fFor, fMut, fPut, fUpd, E.v, E.a, E.i, E.o, E.c, sVar, sCon, sTup, sLst, aNil, aCons, vl, vv, sOp1, sOp2, sB, bE, bNot, bAnd, bOr, sAnd, sOr, sIte, sChn, sSl, oNone, oSome, sCall, sPop, sDnew, sDisp, sLrg, sShr, iOf, iRan1, iRan2, bYes, Cn.d, B1.sem, rr_tup, rr_lst, rr_scr, rr_dct, rr_int, rr_str, rr_bl, rr_non, rr_ref, rr_f, rr_o, Rw.val, binD, cmpR, cmpD, ofB, List.replicate, b_law_due, inner, eC, hq]
                · have h0 : F.isEmpty = false := by simpa using h0
                  rw [h0] at hq hc
                  have h1 : H p F = false := by simpa using hc
                  rw [h1] at hh
                  simp [runF, S.sem, fSeq, fIf, fRet, fRetN, fSkip, fDrop, fAsg, fAsgT, fPar, fPar3, asgRw, fFor, fMut, fPut, fUpd, E.v, E.a, E.i, E.o, E.c, sVar, sCon, sTup, sLst, aNil, aCons, vl, vv, sOp1, sOp2, sB, bE, bNot, bAnd, bOr, sAnd, sOr, sIte, sChn, sSl, oNone, oSome, sCall, sPop, sDnew, sDisp, sLrg, sShr, iOf, iRan1, iRan2, bYes, Cn.d, B1.sem, rr_tup, rr_lst, rr_scr, rr_dct, rr_int, rr_str, rr_bl, rr_non, rr_ref, rr_f, rr_o, Rw.val, binD, cmpR, cmpD, ofB, List.replicate, b_law_due, inner, eC, hq, hh])
          rw [find_map] at e3
          cases hf : p.2.asks.findSome? fun a => hit H p kp a with
          | some r =>
            rw [hf] at e3
            show (inner (inner b_law_due)).sem (callN T (k + 3)) _ ah = some (.rt (rH r) ah)
            simp only [Option.map_some] at e3
            simp [runF, S.sem, fSeq, fIf, fRet, fRetN, fSkip, fDrop, fAsg, fAsgT, fPar, fPar3, asgRw, fFor, fMut, fPut, fUpd, E.v, E.a, E.i, E.o, E.c, sVar, sCon, sTup, sLst, aNil, aCons, vl, vv, sOp1, sOp2, sB, bE, bNot, bAnd, bOr, sAnd, sOr, sIte, sChn, sSl, oNone, oSome, sCall, sPop, sDnew, sDisp, sLrg, sShr, iOf, iRan1, iRan2, bYes, Cn.d, B1.sem, rr_tup, rr_lst, rr_scr, rr_dct, rr_int, rr_str, rr_bl, rr_non, rr_ref, rr_f, rr_o, Rw.val, binD, cmpR, cmpD, ofB, List.replicate, b_law_due, inner, atI2, ixD] at e3 ⊢
            rw [e3]
            rfl
          | none =>
            rw [hf] at e3
            obtain ⟨env', e3, y8, y9, rfl⟩ := e3
            refine ⟨[.va (eW many bells storms b pages m), .va (eSky many bells storms), .va (ePl b pages), .va (.str m), .va (.int 0), .va (tI p.1), .va (eK p.2), .va (tI kp), y8, y9, .un], ?_, _, _, _, rfl⟩
            simp [runF, S.sem, fSeq, fIf, fRet, fRetN, fSkip, fDrop, fAsg, fAsgT, fPar, fPar3, asgRw, fFor, fMut, fPut, fUpd, E.v, E.a, E.i, E.o, E.c, sVar, sCon, sTup, sLst, aNil, aCons, vl, vv, sOp1, sOp2, sB, bE, bNot, bAnd, bOr, sAnd, sOr, sIte, sChn, sSl, oNone, oSome, sCall, sPop, sDnew, sDisp, sLrg, sShr, iOf, iRan1, iRan2, bYes, Cn.d, B1.sem, rr_tup, rr_lst, rr_scr, rr_dct, rr_int, rr_str, rr_bl, rr_non, rr_ref, rr_f, rr_o, Rw.val, binD, cmpR, cmpD, ofB, List.replicate, b_law_due, inner, atI2, ixD] at e3 ⊢
            rw [e3]
            rfl)
      rw [find_map] at e2
      cases hf : p.2.keeps.findSome? fun kp => p.2.asks.findSome? fun a => hit H p kp a with
      | some r =>
        rw [hf] at e2
        show (inner b_law_due).sem (callN T (k + 3)) _ ah = some (.rt (rH r) ah)
        simp only [Option.map_some] at e2
        simp [runF, S.sem, fSeq, fIf, fRet, fRetN, fSkip, fDrop, fAsg, fAsgT, fPar, fPar3, asgRw, fFor, fMut, fPut, fUpd, E.v, E.a, E.i, E.o, E.c, sVar, sCon, sTup, sLst, aNil, aCons, vl, vv, sOp1, sOp2, sB, bE, bNot, bAnd, bOr, sAnd, sOr, sIte, sChn, sSl, oNone, oSome, sCall, sPop, sDnew, sDisp, sLrg, sShr, iOf, iRan1, iRan2, bYes, Cn.d, B1.sem, rr_tup, rr_lst, rr_scr, rr_dct, rr_int, rr_str, rr_bl, rr_non, rr_ref, rr_f, rr_o, Rw.val, binD, cmpR, cmpD, ofB, List.replicate, b_law_due, inner, atI3, ixD] at e2 ⊢
        rw [e2]
        rfl
      | none =>
        rw [hf] at e2
        obtain ⟨env', e2, y7, y8, y9, rfl⟩ := e2
        refine ⟨[.va (eW many bells storms b pages m), .va (eSky many bells storms), .va (ePl b pages), .va (.str m), .va (.int 0), .va (tI p.1), .va (eK p.2), y7, y8, y9, .un], ?_, _, _, _, _, _, rfl⟩
        simp [runF, S.sem, fSeq, fIf, fRet, fRetN, fSkip, fDrop, fAsg, fAsgT, fPar, fPar3, asgRw, fFor, fMut, fPut, fUpd, E.v, E.a, E.i, E.o, E.c, sVar, sCon, sTup, sLst, aNil, aCons, vl, vv, sOp1, sOp2, sB, bE, bNot, bAnd, bOr, sAnd, sOr, sIte, sChn, sSl, oNone, oSome, sCall, sPop, sDnew, sDisp, sLrg, sShr, iOf, iRan1, iRan2, bYes, Cn.d, B1.sem, rr_tup, rr_lst, rr_scr, rr_dct, rr_int, rr_str, rr_bl, rr_non, rr_ref, rr_f, rr_o, Rw.val, binD, cmpR, cmpD, ofB, List.replicate, b_law_due, inner, atI3, ixD] at e2 ⊢
        rw [e2]
        rfl)
  rw [find_map] at e
  unfold hits
  cases hf : pages.findSome? fun p => p.2.keeps.findSome? fun kp => p.2.asks.findSome? fun a => hit H p kp a with
  | some r =>
    rw [hf] at e
    simp only [Option.map_some] at e
    simp [runF, S.sem, fSeq, fIf, fRet, fRetN, fSkip, fDrop, fAsg, fAsgT, fPar, fPar3, asgRw, fFor, fMut, fPut, fUpd, E.v, E.a, E.i, E.o, E.c, sVar, sCon, sTup, sLst, aNil, aCons, vl, vv, sOp1, sOp2, sB, bE, bNot, bAnd, bOr, sAnd, sOr, sIte, sChn, sSl, oNone, oSome, sCall, sPop, sDnew, sDisp, sLrg, sShr, iOf, iRan1, iRan2, bYes, Cn.d, B1.sem, rr_tup, rr_lst, rr_scr, rr_dct, rr_int, rr_str, rr_bl, rr_non, rr_ref, rr_f, rr_o, Rw.val, binD, cmpR, cmpD, ofB, List.replicate, b_law_due, inner, atI1, ixD, bindT, bindTs, parts] at e ⊢
    rw [e]
    rfl
  | none =>
    rw [hf] at e
    obtain ⟨env', e, y5, y6, y7, y8, y9, rfl⟩ := e
    simp [runF, S.sem, fSeq, fIf, fRet, fRetN, fSkip, fDrop, fAsg, fAsgT, fPar, fPar3, asgRw, fFor, fMut, fPut, fUpd, E.v, E.a, E.i, E.o, E.c, sVar, sCon, sTup, sLst, aNil, aCons, vl, vv, sOp1, sOp2, sB, bE, bNot, bAnd, bOr, sAnd, sOr, sIte, sChn, sSl, oNone, oSome, sCall, sPop, sDnew, sDisp, sLrg, sShr, iOf, iRan1, iRan2, bYes, Cn.d, B1.sem, rr_tup, rr_lst, rr_scr, rr_dct, rr_int, rr_str, rr_bl, rr_non, rr_ref, rr_f, rr_o, Rw.val, binD, cmpR, cmpD, ofB, List.replicate, b_law_due, inner, atI1, ixD, bindT, bindTs, parts] at e ⊢
    rw [e]
    rfl
end U.k83
namespace U.k83
open PySem PySem.Spec PyProof.Rows L2 U
section
variable {k : Nat} {many : Int} {bells : List Int} {storms : List St2} {b : Bool} {pages : List Pg} {ah : AH}
def topOf (bells : List Int) (s : St2) : List Int := s.1.filter fun x => decide (x ∈ bells)
def asksIn (top : List Int) (p : Pg) (qs : List Pg) : List (List Int) := qs.flatMap fun q => if (sub p.1 q.1 && sub q.1 top) = true then q.2.asks else []
def tornK (pages : List Pg) (top bl : List Int) (p : Pg) (kp : List Int) : Bool := (asksIn top p pages).any fun lot => sub (kp.filter fun x => decide (x ∈ lot)) bl
def tornP (pages : List Pg) (top bl : List Int) (p : Pg) : Bool := (p.2.keeps.filter fun _ => sub p.1 top).any fun kp => tornK pages top bl p kp
def torn (bells : List Int) (storms : List St2) (pages : List Pg) : Bool := storms.any fun s => pages.any fun p => tornP pages (topOf bells s) s.2 p
theorem asksIn_len {top : List Int} {p : Pg} : ∀ {qs : List Pg}, (∀ q ∈ qs, WK q.2) → (asksIn top p qs).length ≤ qs.length * 10
  | [], _ => by simp [asksIn]
  | q :: qs, h => by
    have ih := asksIn_len (top := top) (p := p) (qs := qs) fun x hx => h x (List.mem_cons_of_mem _ hx)
    have h1 := (h q (List.mem_cons_self ..)).la
    unfold asksIn at ih ⊢
    rw [List.flatMap_cons, List.length_append, List.length_cons]
    split
    · omega
    · rw [List.length_nil]; omega
abbrev tIn4 : S → S
  | .seq _ (.seq _ (.seq (.for _ _ b) _)) => b
  | _ => .skip
/- gathering the ask lots -/
theorem gather (hp : WP pages) {s : St2} {p : Pg} {top : List Int} (rt : Row top) (rp : Row p.1) {x10 : Sl} : ∀ {qs done : List Pg} {x8 x9 : Sl}, (∀ q ∈ qs, q ∈ pages) → (asksIn top p done).length + qs.length * 10 ≤ 1000 →
    ∃ y8 y9, forGo (.tp (.cons (.nm 8) (.cons (.nm 9) .nil))) ((inner (inner (inner b_law_is_torn))).sem (callN T (k + 1))) (qs.map ePg) [.va (eSky many bells storms), .va (ePl b pages), .va (tI s.1), .va (tI s.2), .va (.lst (top.map .int)), .va (tI p.1), .va (eK p.2), .ow (.lst ((asksIn top p done).map tI)), x8, x9, x10, .un, .un] ah
      = some (.nx [.va (eSky many bells storms), .va (ePl b pages), .va (tI s.1), .va (tI s.2), .va (.lst (top.map .int)), .va (tI p.1), .va (eK p.2), .ow (.lst ((asksIn top p (done ++ qs)).map tI)), y8, y9, x10, .un, .un] ah)
  | [], done, x8, x9, _, _ => ⟨x8, x9, by rw [List.append_nil]; rfl⟩
  | q :: qs, done, x8, x9, hm, hz => by
    have hq := hm q (List.mem_cons_self ..)
    have hk := hp.kd q hq
    have la := hk.la
    have hb : big = 1000000 := rfl
    have c1 : callN T (k + 1) 12 [tI p.1, tI q.1] ah = some (.v (.bl (sub p.1 q.1)), ah) := is_in_t (a := true) (b := true) rp.len
    have c2 : callN T (k + 1) 12 [tI q.1, .lst (top.map .int)] ah = some (.v (.bl (sub q.1 top)), ah) := is_in_t (a := true) (b := false) (hp.rung q hq).len
    have ext : ∀ zs : List (List Int), zs.length ≤ 10 → extD (.lst ((asksIn top p done).map tI)) (.tup (zs.map tI)) = some (.lst ((asksIn top p done ++ zs).map tI)) := fun zs hzs => by
      show (if ((asksIn top p done).map tI).length + (zs.map tI).length ≤ big then some (D.lst ((asksIn top p done).map tI ++ zs.map tI)) else none) = _
      rw [if_pos (by rw [List.length_map, List.length_map]; omega), List.map_append]
    have e0 : asksIn top p (done ++ [q]) = asksIn top p done ++ (if (sub p.1 q.1 && sub q.1 top) = true then q.2.asks else []) := by unfold asksIn; rw [List.flatMap_append, List.flatMap_singleton]
    have step : (inner (inner (inner b_law_is_torn))).sem (callN T (k + 1)) [.va (eSky many bells storms), .va (ePl b pages), .va (tI s.1), .va (tI s.2), .va (.lst (top.map .int)), .va (tI p.1), .va (eK p.2), .ow (.lst ((asksIn top p done).map tI)), .va (tI q.1), .va (eK q.2), x10, .un, .un] ah
        = some (.nx [.va (eSky many bells storms), .va (ePl b pages), .va (tI s.1), .va (tI s.2), .va (.lst (top.map .int)), .va (tI p.1), .va (eK p.2), .ow (.lst ((asksIn top p (done ++ [q])).map tI)), .va (tI q.1), .va (eK q.2), x10, .un, .un] ah) := by
      rw [e0]
      have x1 := ext q.2.asks la
      have x2 := ext [] (by simp)
      simp only [List.map_nil, List.append_nil] at x2
      cases h1 : sub p.1 q.1 with
      | false =>
        rw [h1] at c1
        simp [runF, S.sem, fSeq, fIf, fRet, fRetN, fSkip, fDrop, fAsg, fAsgT, fPar, fPar3, asgRw, fFor, fMut, fPut, fUpd, E.v, E.a, E.i, E.o, E.c, sVar, sCon, sTup, sLst, aNil, aCons, vl, vv, sOp1, sOp2, sB, bE, bNot, bAnd, bOr, sAnd, sOr, sIte, sChn, sSl, oNone, oSome, sCall, sPop, sDnew, sDisp, sLrg, sShr, iOf, iRan1, iRan2, bYes, Cn.d, B1.sem, rr_tup, rr_lst, rr_scr, rr_dct, rr_int, rr_str, rr_bl, rr_non, rr_ref, rr_f, rr_o, Rw.val, binD, cmpR, cmpD, ofB, List.replicate, b_law_is_torn, inner, c1, locOf, at', isL, upE, upA, x2, big]
      | true =>
        rw [h1] at c1
        cases h2 : sub q.1 top with
        | false =>
          rw [h2] at c2
          simp [runF, S.sem, fSeq, fIf, fRet, fRetN, fSkip, fDrop, fAsg, fAsgT, fPar, fPar3, asgRw, fFor, fMut, fPut, fUpd, E.v, E.a, E.i, E.o, E.c, sVar, sCon, sTup, sLst, aNil, aCons, vl, vv, sOp1, sOp2, sB, bE, bNot, bAnd, bOr, sAnd, sOr, sIte, sChn, sSl, oNone, oSome, sCall, sPop, sDnew, sDisp, sLrg, sShr, iOf, iRan1, iRan2, bYes, Cn.d, B1.sem, rr_tup, rr_lst, rr_scr, rr_dct, rr_int, rr_str, rr_bl, rr_non, rr_ref, rr_f, rr_o, Rw.val, binD, cmpR, cmpD, ofB, List.replicate, b_law_is_torn, inner, c1, c2, locOf, at', isL, upE, upA, x2, big]
        | true =>
          rw [h2] at c2
          simp [runF, S.sem, fSeq, fIf, fRet, fRetN, fSkip, fDrop, fAsg, fAsgT, fPar, fPar3, asgRw, fFor, fMut, fPut, fUpd, E.v, E.a, E.i, E.o, E.c, sVar, sCon, sTup, sLst, aNil, aCons, vl, vv, sOp1, sOp2, sB, bE, bNot, bAnd, bOr, sAnd, sOr, sIte, sChn, sSl, oNone, oSome, sCall, sPop, sDnew, sDisp, sLrg, sShr, iOf, iRan1, iRan2, bYes, Cn.d, B1.sem, rr_tup, rr_lst, rr_scr, rr_dct, rr_int, rr_str, rr_bl, rr_non, rr_ref, rr_f, rr_o, Rw.val, binD, cmpR, cmpD, ofB, List.replicate, b_law_is_torn, inner, c1, c2, locOf, at', isL, upE, upA, atI2, ixD]
          simp [runF, S.sem, fSeq, fIf, fRet, fRetN, fSkip, fDrop, fAsg, fAsgT, fPar, fPar3, asgRw, fFor, fMut, fPut, fUpd, E.v, E.a, E.i, E.o, E.c, sVar, sCon, sTup, sLst, aNil, aCons, vl, vv, sOp1, sOp2, sB, bE, bNot, bAnd, bOr, sAnd, sOr, sIte, sChn, sSl, oNone, oSome, sCall, sPop, sDnew, sDisp, sLrg, sShr, iOf, iRan1, iRan2, bYes, Cn.d, B1.sem, rr_tup, rr_lst, rr_scr, rr_dct, rr_int, rr_str, rr_bl, rr_non, rr_ref, rr_f, rr_o, Rw.val, binD, cmpR, cmpD, ofB, List.replicate, x1]
    obtain ⟨y8, y9, ih⟩ := gather hp (s := s) rt rp (x10 := x10) (qs := qs) (done := done ++ [q]) (x8 := .va (tI q.1)) (x9 := .va (eK q.2)) (fun x hx => hm x (List.mem_cons_of_mem _ hx)) (by
      rw [e0, List.length_append]
      rw [List.length_cons] at hz
      split
      · omega
      · rw [List.length_nil]; omega)
    refine ⟨y8, y9, ?_⟩
    rw [List.map_cons, forGo]
    show (some _ : Option Ev).bind _ = _
    rw [Option.bind_some]
    show (((inner (inner (inner b_law_is_torn))).sem (callN T (k + 1)) [.va (eSky many bells storms), .va (ePl b pages), .va (tI s.1), .va (tI s.2), .va (.lst (top.map .int)), .va (tI p.1), .va (eK p.2), .ow (.lst ((asksIn top p done).map tI)), .va (tI q.1), .va (eK q.2), x10, .un, .un] ah).bind _) = _
    rw [step]
    rw [List.append_assoc] at ih
    exact ih
theorem torn_t (hp : WP pages) (hs : WS storms) : callN T (k + 3) 23 [eSky many bells storms, ePl b pages] ah = some (.v (.bl (torn bells storms pages)), ah) := by
  rw [callN_at (fd := ⟨2, 13, b_law_is_torn⟩) rfl rfl]
  have hb : big = 1000000 := rfl
  have hpl := hp.len
  have e := for_if eP (t := .tp (.cons (.nm 2) (.cons (.nm 3) .nil))) (f := (inner b_law_is_torn).sem (callN T (k + 2))) (ah := ah)
    (fun env => ∃ x2 x3 x4 x5 x6 x7 x8 x9 x10, env = [.va (eSky many bells storms), .va (ePl b pages), x2, x3, x4, x5, x6, x7, x8, x9, x10, .un, .un]) (fun s => pages.any fun p => tornP pages (topOf bells s) s.2 p) (.v (.bl true)) (xs := storms)
    (env := [.va (eSky many bells storms), .va (ePl b pages), .un, .un, .un, .un, .un, .un, .un, .un, .un, .un, .un]) ⟨_, _, _, _, _, _, _, _, _, rfl⟩
    (fun s hss env ⟨x2, x3, x4, x5, x6, x7, x8, x9, x10, he⟩ => by
      subst he
      refine ⟨[.va (eSky many bells storms), .va (ePl b pages), .va (tI s.1), .va (tI s.2), x4, x5, x6, x7, x8, x9, x10, .un, .un], rfl, ?_⟩
      have r1 := (hs.rows s hss).1
      have rt : Row (topOf bells s) := r1.filter _
      have eA := ev_lc D.int (G := callN T (k + 2)) (t := .nm 11) (vs := [11]) (w := .it (.var 2)) (c := .yes (.cmp .In (.var 11) (.ix (.var 0) (.cn (.int 1))))) (e := .var 11)
        (env := [.va (eSky many bells storms), .va (ePl b pages), .va (tI s.1), .va (tI s.2), x4, x5, x6, x7, x8, x9, x10, .un, .un]) (ah := ah) (gu := none) (fun x => decide (x ∈ bells)) D.int (xs := s.1) rfl (by have := r1.len; simp [tgIn, noOw, isOw, this])
        (fun x hx => ⟨[.va (eSky many bells storms), .va (ePl b pages), .va (tI s.1), .va (tI s.2), x4, x5, x6, x7, x8, x9, x10, .va (.int x), .un], rfl, by simp [runF, S.sem, fSeq, fIf, fRet, fRetN, fSkip, fDrop, fAsg, fAsgT, fPar, fPar3, asgRw, fFor, fMut, fPut, fUpd, E.v, E.a, E.i, E.o, E.c, sVar, sCon, sTup, sLst, aNil, aCons, vl, vv, sOp1, sOp2, sB, bE, bNot, bAnd, bOr, sAnd, sOr, sIte, sChn, sSl, oNone, oSome, sCall, sPop, sDnew, sDisp, sLrg, sShr, iOf, iRan1, iRan2, bYes, Cn.d, B1.sem, rr_tup, rr_lst, rr_scr, rr_dct, rr_int, rr_str, rr_bl, rr_non, rr_ref, rr_f, rr_o, Rw.val, binD, cmpR, cmpD, ofB, List.replicate, inD_tI, atI1, ixD], fun _ => by simp [runF, S.sem, fSeq, fIf, fRet, fRetN, fSkip, fDrop, fAsg, fAsgT, fPar, fPar3, asgRw, fFor, fMut, fPut, fUpd, E.v, E.a, E.i, E.o, E.c, sVar, sCon, sTup, sLst, aNil, aCons, vl, vv, sOp1, sOp2, sB, bE, bNot, bAnd, bOr, sAnd, sOr, sIte, sChn, sSl, oNone, oSome, sCall, sPop, sDnew, sDisp, sLrg, sShr, iOf, iRan1, iRan2, bYes, Cn.d, B1.sem, rr_tup, rr_lst, rr_scr, rr_dct, rr_int, rr_str, rr_bl, rr_non, rr_ref, rr_f, rr_o, Rw.val, binD, cmpR, cmpD, ofB, List.replicate]⟩)
      have e2 := for_if ePg (t := .tp (.cons (.nm 5) (.cons (.nm 6) .nil))) (f := (inner (inner b_law_is_torn)).sem (callN T (k + 2))) (ah := ah)
        (fun env => ∃ x5 x6 x7 x8 x9 x10, env = [.va (eSky many bells storms), .va (ePl b pages), .va (tI s.1), .va (tI s.2), .va (.lst ((topOf bells s).map .int)), x5, x6, x7, x8, x9, x10, .un, .un]) (fun p => tornP pages (topOf bells s) s.2 p) (.v (.bl true)) (xs := pages)
        (env := [.va (eSky many bells storms), .va (ePl b pages), .va (tI s.1), .va (tI s.2), .va (.lst ((topOf bells s).map .int)), x5, x6, x7, x8, x9, x10, .un, .un]) ⟨_, _, _, _, _, _, rfl⟩
        (fun p hpp env ⟨x5, x6, x7, x8, x9, x10, he⟩ => by
          subst he
          refine ⟨[.va (eSky many bells storms), .va (ePl b pages), .va (tI s.1), .va (tI s.2), .va (.lst ((topOf bells s).map .int)), .va (tI p.1), .va (eK p.2), x7, x8, x9, x10, .un, .un], rfl, ?_⟩
          have hk := hp.kd p hpp
          have rp := hp.rung p hpp
          have al := asksIn_len (top := topOf bells s) (p := p) (qs := pages) hp.kd
          have lk := hk.lk
          obtain ⟨y8, y9, ga⟩ := gather (k := k + 1) (many := many) (bells := bells) (storms := storms) (b := b) (ah := ah) hp (s := s) rt rp (x10 := x10) (qs := pages) (done := []) (x8 := x8) (x9 := x9) (fun q h => h) (by simp [asksIn]; omega)
          rw [List.nil_append] at ga
          have ga : forGo (.tp (.cons (.nm 8) (.cons (.nm 9) .nil))) ((inner (inner (inner b_law_is_torn))).sem (callN T (k + 2))) (pages.map ePg) [.va (eSky many bells storms), .va (ePl b pages), .va (tI s.1), .va (tI s.2), .va (.lst ((topOf bells s).map .int)), .va (tI p.1), .va (eK p.2), .ow (.lst []), x8, x9, x10, .un, .un] ah = some (.nx [.va (eSky many bells storms), .va (ePl b pages), .va (tI s.1), .va (tI s.2), .va (.lst ((topOf bells s).map .int)), .va (tI p.1), .va (eK p.2), .ow (.lst ((asksIn (topOf bells s) p pages).map tI)), y8, y9, x10, .un, .un] ah) := ga
          have eB := ev_lc tI (G := callN T (k + 2)) (t := .nm 12) (vs := [12]) (w := .it (.ix (.var 6) (.cn (.int 3)))) (c := .yes (.call 12 (.cons (.var 5) (.cons (.var 4) .nil)))) (e := .var 12)
            (env := [.va (eSky many bells storms), .va (ePl b pages), .va (tI s.1), .va (tI s.2), .va (.lst ((topOf bells s).map .int)), .va (tI p.1), .va (eK p.2), .ow (.lst ((asksIn (topOf bells s) p pages).map tI)), y8, y9, x10, .un, .un]) (ah := ah) (gu := none) (fun _ => sub p.1 (topOf bells s)) tI (xs := p.2.keeps) (by simp [runF, S.sem, fSeq, fIf, fRet, fRetN, fSkip, fDrop, fAsg, fAsgT, fPar, fPar3, asgRw, fFor, fMut, fPut, fUpd, E.v, E.a, E.i, E.o, E.c, sVar, sCon, sTup, sLst, aNil, aCons, vl, vv, sOp1, sOp2, sB, bE, bNot, bAnd, bOr, sAnd, sOr, sIte, sChn, sSl, oNone, oSome, sCall, sPop, sDnew, sDisp, sLrg, sShr, iOf, iRan1, iRan2, bYes, Cn.d, B1.sem, rr_tup, rr_lst, rr_scr, rr_dct, rr_int, rr_str, rr_bl, rr_non, rr_ref, rr_f, rr_o, Rw.val, binD, cmpR, cmpD, ofB, List.replicate, atI3, ixD]) (by simp [tgIn, noOw, isOw]; omega)
            (fun a hx => ⟨[.va (eSky many bells storms), .va (ePl b pages), .va (tI s.1), .va (tI s.2), .va (.lst ((topOf bells s).map .int)), .va (tI p.1), .va (eK p.2), .ow (.lst ((asksIn (topOf bells s) p pages).map tI)), y8, y9, x10, .un, .va (tI a)], rfl, by
              have : callN T (k + 2) 12 [tI p.1, .lst ((topOf bells s).map .int)] ah = some (.v (.bl (sub p.1 (topOf bells s))), ah) := is_in_t (a := true) (b := false) rp.len
              simp [runF, S.sem, fSeq, fIf, fRet, fRetN, fSkip, fDrop, fAsg, fAsgT, fPar, fPar3, asgRw, fFor, fMut, fPut, fUpd, E.v, E.a, E.i, E.o, E.c, sVar, sCon, sTup, sLst, aNil, aCons, vl, vv, sOp1, sOp2, sB, bE, bNot, bAnd, bOr, sAnd, sOr, sIte, sChn, sSl, oNone, oSome, sCall, sPop, sDnew, sDisp, sLrg, sShr, iOf, iRan1, iRan2, bYes, Cn.d, B1.sem, rr_tup, rr_lst, rr_scr, rr_dct, rr_int, rr_str, rr_bl, rr_non, rr_ref, rr_f, rr_o, Rw.val, binD, cmpR, cmpD, ofB, List.replicate, this], fun _ => by simp [runF, S.sem, fSeq, fIf, fRet, fRetN, fSkip, fDrop, fAsg, fAsgT, fPar, fPar3, asgRw, fFor, fMut, fPut, fUpd, E.v, E.a, E.i, E.o, E.c, sVar, sCon, sTup, sLst, aNil, aCons, vl, vv, sOp1, sOp2, sB, bE, bNot, bAnd, bOr, sAnd, sOr, sIte, sChn, sSl, oNone, oSome, sCall, sPop, sDnew, sDisp, sLrg, sShr, iOf, iRan1, iRan2, bYes, Cn.d, B1.sem, rr_tup, rr_lst, rr_scr, rr_dct, rr_int, rr_str, rr_bl, rr_non, rr_ref, rr_f, rr_o, Rw.val, binD, cmpR, cmpD, ofB, List.replicate]⟩)
          have e3 := for_if tI (t := .nm 10) (f := (tIn4 (inner (inner b_law_is_torn))).sem (callN T (k + 2))) (ah := ah)
            (fun env => ∃ x10, env = [.va (eSky many bells storms), .va (ePl b pages), .va (tI s.1), .va (tI s.2), .va (.lst ((topOf bells s).map .int)), .va (tI p.1), .va (eK p.2), .ow (.lst ((asksIn (topOf bells s) p pages).map tI)), y8, y9, x10, .un, .un]) (fun kp => tornK pages (topOf bells s) s.2 p kp) (.v (.bl true)) (xs := p.2.keeps.filter fun _ => sub p.1 (topOf bells s))
            (env := [.va (eSky many bells storms), .va (ePl b pages), .va (tI s.1), .va (tI s.2), .va (.lst ((topOf bells s).map .int)), .va (tI p.1), .va (eK p.2), .ow (.lst ((asksIn (topOf bells s) p pages).map tI)), y8, y9, x10, .un, .un]) ⟨_, rfl⟩
            (fun kp hkp env ⟨x10, he⟩ => by
              subst he
              refine ⟨[.va (eSky many bells storms), .va (ePl b pages), .va (tI s.1), .va (tI s.2), .va (.lst ((topOf bells s).map .int)), .va (tI p.1), .va (eK p.2), .ow (.lst ((asksIn (topOf bells s) p pages).map tI)), y8, y9, .va (tI kp), .un, .un], rfl, ?_⟩
              have rk := hk.keeps kp (List.mem_filter.mp hkp).1
              have eD := ev_lc tI (G := callN T (k + 2)) (t := .nm 12) (vs := [12]) (w := .it (.var 7)) (c := .yes (.call 12 (.cons (.lc (.nm 11) [11] (.it (.var 10)) (.yes (.cmp .In (.var 11) (.var 12))) (.var 11)) (.cons (.var 3) .nil)))) (e := .var 12)
                (env := [.va (eSky many bells storms), .va (ePl b pages), .va (tI s.1), .va (tI s.2), .va (.lst ((topOf bells s).map .int)), .va (tI p.1), .va (eK p.2), .ow (.lst ((asksIn (topOf bells s) p pages).map tI)), y8, y9, .va (tI kp), .un, .un]) (ah := ah) (gu := some (7, .lst ((asksIn (topOf bells s) p pages).map tI))) (fun lot => sub (kp.filter fun x => decide (x ∈ lot)) s.2) tI (xs := asksIn (topOf bells s) p pages) (by simp [runF, S.sem, fSeq, fIf, fRet, fRetN, fSkip, fDrop, fAsg, fAsgT, fPar, fPar3, asgRw, fFor, fMut, fPut, fUpd, E.v, E.a, E.i, E.o, E.c, sVar, sCon, sTup, sLst, aNil, aCons, vl, vv, sOp1, sOp2, sB, bE, bNot, bAnd, bOr, sAnd, sOr, sIte, sChn, sSl, oNone, oSome, sCall, sPop, sDnew, sDisp, sLrg, sShr, iOf, iRan1, iRan2, bYes, Cn.d, B1.sem, rr_tup, rr_lst, rr_scr, rr_dct, rr_int, rr_str, rr_bl, rr_non, rr_ref, rr_f, rr_o, Rw.val, binD, cmpR, cmpD, ofB, List.replicate]) (by simp [tgIn, noOw, isOw]; omega)
                (fun lot hx => ⟨[.va (eSky many bells storms), .va (ePl b pages), .va (tI s.1), .va (tI s.2), .va (.lst ((topOf bells s).map .int)), .va (tI p.1), .va (eK p.2), .ow (.lst ((asksIn (topOf bells s) p pages).map tI)), y8, y9, .va (tI kp), .un, .va (tI lot)], rfl, by
                  have eF := ev_lc D.int (G := callN T (k + 2)) (t := .nm 11) (vs := [11]) (w := .it (.var 10)) (c := .yes (.cmp .In (.var 11) (.var 12))) (e := .var 11)
                    (env := [.va (eSky many bells storms), .va (ePl b pages), .va (tI s.1), .va (tI s.2), .va (.lst ((topOf bells s).map .int)), .va (tI p.1), .va (eK p.2), .ow (.lst ((asksIn (topOf bells s) p pages).map tI)), y8, y9, .va (tI kp), .un, .va (tI lot)]) (ah := ah) (gu := none) (fun x => decide (x ∈ lot)) D.int (xs := kp) rfl (by have := rk.len; simp [tgIn, noOw, isOw, this])
                    (fun x hx => ⟨[.va (eSky many bells storms), .va (ePl b pages), .va (tI s.1), .va (tI s.2), .va (.lst ((topOf bells s).map .int)), .va (tI p.1), .va (eK p.2), .ow (.lst ((asksIn (topOf bells s) p pages).map tI)), y8, y9, .va (tI kp), .va (.int x), .va (tI lot)], rfl, by simp [runF, S.sem, fSeq, fIf, fRet, fRetN, fSkip, fDrop, fAsg, fAsgT, fPar, fPar3, asgRw, fFor, fMut, fPut, fUpd, E.v, E.a, E.i, E.o, E.c, sVar, sCon, sTup, sLst, aNil, aCons, vl, vv, sOp1, sOp2, sB, bE, bNot, bAnd, bOr, sAnd, sOr, sIte, sChn, sSl, oNone, oSome, sCall, sPop, sDnew, sDisp, sLrg, sShr, iOf, iRan1, iRan2, bYes, Cn.d, B1.sem, rr_tup, rr_lst, rr_scr, rr_dct, rr_int, rr_str, rr_bl, rr_non, rr_ref, rr_f, rr_o, Rw.val, binD, cmpR, cmpD, ofB, List.replicate, inD_tI], fun _ => by simp [runF, S.sem, fSeq, fIf, fRet, fRetN, fSkip, fDrop, fAsg, fAsgT, fPar, fPar3, asgRw, fFor, fMut, fPut, fUpd, E.v, E.a, E.i, E.o, E.c, sVar, sCon, sTup, sLst, aNil, aCons, vl, vv, sOp1, sOp2, sB, bE, bNot, bAnd, bOr, sAnd, sOr, sIte, sChn, sSl, oNone, oSome, sCall, sPop, sDnew, sDisp, sLrg, sShr, iOf, iRan1, iRan2, bYes, Cn.d, B1.sem, rr_tup, rr_lst, rr_scr, rr_dct, rr_int, rr_str, rr_bl, rr_non, rr_ref, rr_f, rr_o, Rw.val, binD, cmpR, cmpD, ofB, List.replicate]⟩)
                  simp [E.v, E.a, E.i, E.o, E.c, Cn.d, B1.sem] at eF
                  have : callN T (k + 2) 12 [.lst ((kp.filter fun x => decide (x ∈ lot)).map .int), tI s.2] ah = some (.v (.bl (sub (kp.filter fun x => decide (x ∈ lot)) s.2)), ah) := is_in_t (a := false) (b := true) (rk.filter _).len
                  simp [runF, S.sem, fSeq, fIf, fRet, fRetN, fSkip, fDrop, fAsg, fAsgT, fPar, fPar3, asgRw, fFor, fMut, fPut, fUpd, E.v, E.a, E.i, E.o, E.c, sVar, sCon, sTup, sLst, aNil, aCons, vl, vv, sOp1, sOp2, sB, bE, bNot, bAnd, bOr, sAnd, sOr, sIte, sChn, sSl, oNone, oSome, sCall, sPop, sDnew, sDisp, sLrg, sShr, iOf, iRan1, iRan2, bYes, Cn.d, B1.sem, rr_tup, rr_lst, rr_scr, rr_dct, rr_int, rr_str, rr_bl, rr_non, rr_ref, rr_f, rr_o, Rw.val, binD, cmpR, cmpD, ofB, List.replicate, eF, this], fun _ => by simp [runF, S.sem, fSeq, fIf, fRet, fRetN, fSkip, fDrop, fAsg, fAsgT, fPar, fPar3, asgRw, fFor, fMut, fPut, fUpd, E.v, E.a, E.i, E.o, E.c, sVar, sCon, sTup, sLst, aNil, aCons, vl, vv, sOp1, sOp2, sB, bE, bNot, bAnd, bOr, sAnd, sOr, sIte, sChn, sSl, oNone, oSome, sCall, sPop, sDnew, sDisp, sLrg, sShr, iOf, iRan1, iRan2, bYes, Cn.d, B1.sem, rr_tup, rr_lst, rr_scr, rr_dct, rr_int, rr_str, rr_bl, rr_non, rr_ref, rr_f, rr_o, Rw.val, binD, cmpR, cmpD, ofB, List.replicate]⟩)
              simp [E.v, E.a, E.i, E.o, E.c, Cn.d, B1.sem] at eD
              have hq := eqD_lst0 _ (flats_map tI 59 (fun a => flat_tI 58 a) ((asksIn (topOf bells s) p pages).filter fun lot => sub (kp.filter fun x => decide (x ∈ lot)) s.2))
              rw [List.isEmpty_map] at hq
              have hne := ne_any (fun lot => sub (kp.filter fun x => decide (x ∈ lot)) s.2) (asksIn (topOf bells s) p pages)
              by_cases hb1 : tornK pages (topOf bells s) s.2 p kp = true
              · rw [if_pos hb1]
                have h0 : ((asksIn (topOf bells s) p pages).filter fun lot => sub (kp.filter fun x => decide (x ∈ lot)) s.2).isEmpty = false := by
                  have : (!((asksIn (topOf bells s) p pages).filter fun lot => sub (kp.filter fun x => decide (x ∈ lot)) s.2).isEmpty) = true := hne.trans hb1
                  simpa using this
                rw [h0] at hq
                simp [runF, S.sem, fSeq, fIf, fRet, fRetN, fSkip, fDrop, fAsg, fAsgT, fPar, fPar3, asgRw, fFor, fMut, fPut, fUpd, E.v, E.a, E.i, E.o, E.c, sVar, sCon, sTup, sLst, aNil, aCons, vl, vv, sOp1, sOp2, sB, bE, bNot, bAnd, bOr, sAnd, sOr, sIte, sChn, sSl, oNone, oSome, sCall, sPop, sDnew, sDisp, sLrg, sShr, iOf, iRan1, iRan2, bYes, Cn.d, B1.sem, rr_tup, rr_lst, rr_scr, rr_dct, rr_int, rr_str, rr_bl, rr_non, rr_ref, rr_f, rr_o, Rw.val, binD, cmpR, cmpD, ofB, List.replicate, b_law_is_torn, inner, tIn4, eD, hq]
              · rw [if_neg hb1]
                have h0 : ((asksIn (topOf bells s) p pages).filter fun lot => sub (kp.filter fun x => decide (x ∈ lot)) s.2).isEmpty = true := by
                  have : (!((asksIn (topOf bells s) p pages).filter fun lot => sub (kp.filter fun x => decide (x ∈ lot)) s.2).isEmpty) = false := hne.trans (by
                    cases h : tornK pages (topOf bells s) s.2 p kp with
                    | false => exact h
                    | true => exact absurd h hb1)
                  simpa using this
                rw [h0] at hq
                exact ⟨[.va (eSky many bells storms), .va (ePl b pages), .va (tI s.1), .va (tI s.2), .va (.lst ((topOf bells s).map .int)), .va (tI p.1), .va (eK p.2), .ow (.lst ((asksIn (topOf bells s) p pages).map tI)), y8, y9, .va (tI kp), .un, .un], by simp [runF, S.sem, fSeq, fIf, fRet, fRetN, fSkip, fDrop, fAsg, fAsgT, fPar, fPar3, asgRw, fFor, fMut, fPut, fUpd, E.v, E.a, E.i, E.o, E.c, sVar, sCon, sTup, sLst, aNil, aCons, vl, vv, sOp1, sOp2, sB, bE, bNot, bAnd, bOr, sAnd, sOr, sIte, sChn, sSl, oNone, oSome, sCall, sPop, sDnew, sDisp, sLrg, sShr, iOf, iRan1, iRan2, bYes, Cn.d, B1.sem, rr_tup, rr_lst, rr_scr, rr_dct, rr_int, rr_str, rr_bl, rr_non, rr_ref, rr_f, rr_o, Rw.val, binD, cmpR, cmpD, ofB, List.replicate, b_law_is_torn, inner, tIn4, eD, hq], _, rfl⟩)
          simp [E.v, E.a, E.i, E.o, E.c, Cn.d, B1.sem] at eB
          have st : ∀ o, forGo (.nm 10) ((tIn4 (inner (inner b_law_is_torn))).sem (callN T (k + 2))) ((p.2.keeps.filter fun _ => sub p.1 (topOf bells s)).map tI) [.va (eSky many bells storms), .va (ePl b pages), .va (tI s.1), .va (tI s.2), .va (.lst ((topOf bells s).map .int)), .va (tI p.1), .va (eK p.2), .ow (.lst ((asksIn (topOf bells s) p pages).map tI)), y8, y9, x10, .un, .un] ah = some o →
              (inner (inner b_law_is_torn)).sem (callN T (k + 2)) [.va (eSky many bells storms), .va (ePl b pages), .va (tI s.1), .va (tI s.2), .va (.lst ((topOf bells s).map .int)), .va (tI p.1), .va (eK p.2), x7, x8, x9, x10, .un, .un] ah = some o := fun o ho => by
            simp [runF, S.sem, fSeq, fIf, fRet, fRetN, fSkip, fDrop, fAsg, fAsgT, fPar, fPar3, asgRw, fFor, fMut, fPut, fUpd, E.v, E.a, E.i, E.o, E.c, sVar, sCon, sTup, sLst, aNil, aCons, vl, vv, sOp1, sOp2, sB, bE, bNot, bAnd, bOr, sAnd, sOr, sIte, sChn, sSl, oNone, oSome, sCall, sPop, sDnew, sDisp, sLrg, sShr, iOf, iRan1, iRan2, bYes, Cn.d, B1.sem, rr_tup, rr_lst, rr_scr, rr_dct, rr_int, rr_str, rr_bl, rr_non, rr_ref, rr_f, rr_o, Rw.val, binD, cmpR, cmpD, ofB, List.replicate, b_law_is_torn, inner, tIn4, atI1, ixD, big] at ga ho ⊢
            simp [runF, S.sem, fSeq, fIf, fRet, fRetN, fSkip, fDrop, fAsg, fAsgT, fPar, fPar3, asgRw, fFor, fMut, fPut, fUpd, E.v, E.a, E.i, E.o, E.c, sVar, sCon, sTup, sLst, aNil, aCons, vl, vv, sOp1, sOp2, sB, bE, bNot, bAnd, bOr, sAnd, sOr, sIte, sChn, sSl, oNone, oSome, sCall, sPop, sDnew, sDisp, sLrg, sShr, iOf, iRan1, iRan2, bYes, Cn.d, B1.sem, rr_tup, rr_lst, rr_scr, rr_dct, rr_int, rr_str, rr_bl, rr_non, rr_ref, rr_f, rr_o, Rw.val, binD, cmpR, cmpD, ofB, List.replicate, ga, eB, ho]
            cases o <;> rfl
          by_cases hb1 : tornP pages (topOf bells s) s.2 p = true
          · rw [if_pos hb1]
            rw [if_pos (show ((p.2.keeps.filter fun _ => sub p.1 (topOf bells s)).any fun kp => tornK pages (topOf bells s) s.2 p kp) = true from hb1)] at e3
            exact st _ e3
          · rw [if_neg hb1]
            rw [if_neg (show ¬ ((p.2.keeps.filter fun _ => sub p.1 (topOf bells s)).any fun kp => tornK pages (topOf bells s) s.2 p kp) = true from hb1)] at e3
            obtain ⟨env', e3, y10, rfl⟩ := e3
            exact ⟨_, st _ e3, _, _, _, _, _, _, rfl⟩)
      simp [E.v, E.a, E.i, E.o, E.c, Cn.d, B1.sem] at eA
      have st : ∀ o, forGo (.tp (.cons (.nm 5) (.cons (.nm 6) .nil))) ((inner (inner b_law_is_torn)).sem (callN T (k + 2))) (pages.map ePg) [.va (eSky many bells storms), .va (ePl b pages), .va (tI s.1), .va (tI s.2), .va (.lst ((topOf bells s).map .int)), x5, x6, x7, x8, x9, x10, .un, .un] ah = some o →
          (inner b_law_is_torn).sem (callN T (k + 2)) [.va (eSky many bells storms), .va (ePl b pages), .va (tI s.1), .va (tI s.2), x4, x5, x6, x7, x8, x9, x10, .un, .un] ah = some o := fun o ho => by
        have eA' := eA
        simp [runF, S.sem, fSeq, fIf, fRet, fRetN, fSkip, fDrop, fAsg, fAsgT, fPar, fPar3, asgRw, fFor, fMut, fPut, fUpd, E.v, E.a, E.i, E.o, E.c, sVar, sCon, sTup, sLst, aNil, aCons, vl, vv, sOp1, sOp2, sB, bE, bNot, bAnd, bOr, sAnd, sOr, sIte, sChn, sSl, oNone, oSome, sCall, sPop, sDnew, sDisp, sLrg, sShr, iOf, iRan1, iRan2, bYes, Cn.d, B1.sem, rr_tup, rr_lst, rr_scr, rr_dct, rr_int, rr_str, rr_bl, rr_non, rr_ref, rr_f, rr_o, Rw.val, binD, cmpR, cmpD, ofB, List.replicate, b_law_is_torn, inner, topOf, atI1, ixD] at ho ⊢
        simp [runF, S.sem, fSeq, fIf, fRet, fRetN, fSkip, fDrop, fAsg, fAsgT, fPar, fPar3, asgRw, fFor, fMut, fPut, fUpd, E.v, E.a, E.i, E.o, E.c, sVar, sCon, sTup, sLst, aNil, aCons, vl, vv, sOp1, sOp2, sB, bE, bNot, bAnd, bOr, sAnd, sOr, sIte, sChn, sSl, oNone, oSome, sCall, sPop, sDnew, sDisp, sLrg, sShr, iOf, iRan1, iRan2, bYes, Cn.d, B1.sem, rr_tup, rr_lst, rr_scr, rr_dct, rr_int, rr_str, rr_bl, rr_non, rr_ref, rr_f, rr_o, Rw.val, binD, cmpR, cmpD, ofB, List.replicate, eA, atI1, ixD, ho]
        cases o <;> rfl
      by_cases hb1 : (pages.any fun p => tornP pages (topOf bells s) s.2 p) = true
      · rw [if_pos hb1] at e2 ⊢
        exact st _ e2
      · rw [if_neg hb1] at e2 ⊢
        obtain ⟨env', e2, y5, y6, y7, y8, y9, y10, rfl⟩ := e2
        exact ⟨_, st _ e2, _, _, _, _, _, _, _, _, _, rfl⟩)
  cases hb1 : torn bells storms pages with
  | true =>
    rw [if_pos (show (storms.any fun s => pages.any fun p => tornP pages (topOf bells s) s.2 p) = true from hb1)] at e
    simp [runF, S.sem, fSeq, fIf, fRet, fRetN, fSkip, fDrop, fAsg, fAsgT, fPar, fPar3, asgRw, fFor, fMut, fPut, fUpd, E.v, E.a, E.i, E.o, E.c, sVar, sCon, sTup, sLst, aNil, aCons, vl, vv, sOp1, sOp2, sB, bE, bNot, bAnd, bOr, sAnd, sOr, sIte, sChn, sSl, oNone, oSome, sCall, sPop, sDnew, sDisp, sLrg, sShr, iOf, iRan1, iRan2, bYes, Cn.d, B1.sem, rr_tup, rr_lst, rr_scr, rr_dct, rr_int, rr_str, rr_bl, rr_non, rr_ref, rr_f, rr_o, Rw.val, binD, cmpR, cmpD, ofB, List.replicate, b_law_is_torn, inner, atI2, ixD] at e ⊢
    rw [e]
    rfl
  | false =>
    rw [if_neg (show ¬ (storms.any fun s => pages.any fun p => tornP pages (topOf bells s) s.2 p) = true from by rw [show (storms.any fun s => pages.any fun p => tornP pages (topOf bells s) s.2 p) = false from hb1]; exact Bool.false_ne_true)] at e
    obtain ⟨env', e, y2, y3, y4, y5, y6, y7, y8, y9, y10, rfl⟩ := e
    simp [runF, S.sem, fSeq, fIf, fRet, fRetN, fSkip, fDrop, fAsg, fAsgT, fPar, fPar3, asgRw, fFor, fMut, fPut, fUpd, E.v, E.a, E.i, E.o, E.c, sVar, sCon, sTup, sLst, aNil, aCons, vl, vv, sOp1, sOp2, sB, bE, bNot, bAnd, bOr, sAnd, sOr, sIte, sChn, sSl, oNone, oSome, sCall, sPop, sDnew, sDisp, sLrg, sShr, iOf, iRan1, iRan2, bYes, Cn.d, B1.sem, rr_tup, rr_lst, rr_scr, rr_dct, rr_int, rr_str, rr_bl, rr_non, rr_ref, rr_f, rr_o, Rw.val, binD, cmpR, cmpD, ofB, List.replicate, b_law_is_torn, inner, atI2, ixD] at e ⊢
    rw [e]
    rfl
end
end U.k83
namespace U.k83
open PySem PySem.Spec PyProof.Rows L2 U
abbrev DkK := Dk 4294967291
section
variable {k : Nat} {ah : AH}
theorem draw_t {n : Int} (hn : n < 1073741824) (dk : DkK ah) : ∃ r ah', callN T (k + 1) 8 [.ref 1, .int n] ah = some (.v (.int r), ah') ∧ DkK ah' ∧ 0 ≤ r ∧ (r < n ∨ r = 0) :=
  draw_G (T := T) (c1 := 2654435761) (p1 := 4294967279) (c2 := 40692) (c3 := 23) (p2 := 4294967231) (c4 := 11) (p3 := 4294967197) (dv := 64) rfl (by decide) (by decide) (by decide) (by decide) (by decide) hn dk
def sD (b : Bool) (ds : List D) : D := if b then .tup ds else .lst ds
theorem sD_sq (b : Bool) (xs : List Int) : sq b xs = sD b (xs.map .int) := by cases b <;> rfl
theorem sD_rd {b : Bool} {ds : List D} {env : Ev} {ah : AH} : Rw.rd env ah (.v (sD b ds)) = some (sD b ds) := by cases b <;> rfl
theorem sD_len {b : Bool} {ds : List D} : lenD (sD b ds) = some (.v (.int ds.length)) := by cases b <;> rfl
theorem sD_ix {b : Bool} {ds : List D} {i : Int} : ixD (sD b ds) (.int i) = (atI ds i).map .v := by cases b <;> rfl
theorem pick_t {b : Bool} {ds : List D} (hx : ds ≠ []) (hl : ds.length ≤ 1000) (dk : DkK ah) : ∃ d ah', callN T (k + 2) 9 [.ref 1, sD b ds] ah = some (.v d, ah') ∧ DkK ah' ∧ d ∈ ds := by
  rw [callN_at (fd := ⟨2, 2, b_law_pick⟩) rfl rfl]
  obtain ⟨r, ah', e, dk', r0, r1⟩ := draw_t (k := k) (n := ds.length) (by omega) dk
  obtain ⟨i, rfl⟩ : ∃ i : Nat, r = i := ⟨r.toNat, by omega⟩
  have hlt : i < ds.length := by
    have : 0 < ds.length := List.length_pos_iff.mpr hx
    omega
  have hat : atI ds i = some ds[i] := atI_nat (List.getElem?_eq_getElem hlt)
  refine ⟨ds[i], ah', ?_, dk', List.getElem_mem _⟩
  simp [runF, S.sem, fSeq, fIf, fRet, fRetN, fSkip, fDrop, fAsg, fAsgT, fPar, fPar3, asgRw, fFor, fMut, fPut, fUpd, E.v, E.a, E.i, E.o, E.c, sVar, sCon, sTup, sLst, aNil, aCons, vl, vv, sOp1, sOp2, sB, bE, bNot, bAnd, bOr, sAnd, sOr, sIte, sChn, sSl, oNone, oSome, sCall, sPop, sDnew, sDisp, sLrg, sShr, iOf, iRan1, iRan2, bYes, Cn.d, B1.sem, rr_tup, rr_lst, rr_scr, rr_dct, rr_int, rr_str, rr_bl, rr_non, rr_ref, rr_f, rr_o, Rw.val, binD, cmpR, cmpD, ofB, List.replicate, b_law_pick, sD_rd, sD_len, sD_ix, e, hat]
theorem part_t {b : Bool} {xs : List Int} {n : Int} (hl : xs.length ≤ big) (hn : n < 1073741824) (dk : DkK ah) : ∃ ys ah', callN T (k + 2) 10 [.ref 1, sq b xs, .int n] ah = some (.v (tI ys), ah') ∧ DkK ah' ∧ ys.Sublist xs := by
  rw [callN_at (fd := ⟨3, 4, b_law_part⟩) rfl rfl]
  obtain ⟨ys, ah', e, dk', hs⟩ := ev_lcD D.int (G := callN T (k + 1)) (t := .nm 3) (vs := [3]) (w := .it (.var 1)) (c := .yes (.cmp .Eq (.call 8 (.cons (.var 0) (.cons (.var 2) .nil))) (.cn (.int 0)))) (e := .var 3) (env := [.va (.ref 1), .va (sq b xs), .va (.int n), .un]) (ah := ah) (gu := none) DkK D.int (xs := xs) dk (sq_it rfl) (by simp [tgIn, noOw, isOw, hl])
    (fun x hx ah dk => by
      obtain ⟨r, ah', e, dk', r0, r1⟩ := draw_t (k := k) (n := n) hn dk
      exact ⟨[.va (.ref 1), .va (sq b xs), .va (.int n), .va (.int x)], rfl, decide (r = 0), ah', by simp [runF, S.sem, fSeq, fIf, fRet, fRetN, fSkip, fDrop, fAsg, fAsgT, fPar, fPar3, asgRw, fFor, fMut, fPut, fUpd, E.v, E.a, E.i, E.o, E.c, sVar, sCon, sTup, sLst, aNil, aCons, vl, vv, sOp1, sOp2, sB, bE, bNot, bAnd, bOr, sAnd, sOr, sIte, sChn, sSl, oNone, oSome, sCall, sPop, sDnew, sDisp, sLrg, sShr, iOf, iRan1, iRan2, bYes, Cn.d, B1.sem, rr_tup, rr_lst, rr_scr, rr_dct, rr_int, rr_str, rr_bl, rr_non, rr_ref, rr_f, rr_o, Rw.val, binD, cmpR, cmpD, ofB, List.replicate, e, eqD_int], dk', fun _ => by simp [runF, S.sem, fSeq, fIf, fRet, fRetN, fSkip, fDrop, fAsg, fAsgT, fPar, fPar3, asgRw, fFor, fMut, fPut, fUpd, E.v, E.a, E.i, E.o, E.c, sVar, sCon, sTup, sLst, aNil, aCons, vl, vv, sOp1, sOp2, sB, bE, bNot, bAnd, bOr, sAnd, sOr, sIte, sChn, sSl, oNone, oSome, sCall, sPop, sDnew, sDisp, sLrg, sShr, iOf, iRan1, iRan2, bYes, Cn.d, B1.sem, rr_tup, rr_lst, rr_scr, rr_dct, rr_int, rr_str, rr_bl, rr_non, rr_ref, rr_f, rr_o, Rw.val, binD, cmpR, cmpD, ofB, List.replicate]⟩)
  refine ⟨ys, ah', ?_, dk', hs⟩
  simp [runF, S.sem, fSeq, fIf, fRet, fRetN, fSkip, fDrop, fAsg, fAsgT, fPar, fPar3, asgRw, fFor, fMut, fPut, fUpd, E.v, E.a, E.i, E.o, E.c, sVar, sCon, sTup, sLst, aNil, aCons, vl, vv, sOp1, sOp2, sB, bE, bNot, bAnd, bOr, sAnd, sOr, sIte, sChn, sSl, oNone, oSome, sCall, sPop, sDnew, sDisp, sLrg, sShr, iOf, iRan1, iRan2, bYes, Cn.d, B1.sem, rr_tup, rr_lst, rr_scr, rr_dct, rr_int, rr_str, rr_bl, rr_non, rr_ref, rr_f, rr_o, Rw.val, binD, cmpR, cmpD, ofB, List.replicate, b_law_part]
  simp [E.v, E.a, E.i, E.o, E.c, Cn.d, B1.sem] at e
  rw [e]
  simp [runF, S.sem, fSeq, fIf, fRet, fRetN, fSkip, fDrop, fAsg, fAsgT, fPar, fPar3, asgRw, fFor, fMut, fPut, fUpd, E.v, E.a, E.i, E.o, E.c, sVar, sCon, sTup, sLst, aNil, aCons, vl, vv, sOp1, sOp2, sB, bE, bNot, bAnd, bOr, sAnd, sOr, sIte, sChn, sSl, oNone, oSome, sCall, sPop, sDnew, sDisp, sLrg, sShr, iOf, iRan1, iRan2, bYes, Cn.d, B1.sem, rr_tup, rr_lst, rr_scr, rr_dct, rr_int, rr_str, rr_bl, rr_non, rr_ref, rr_f, rr_o, Rw.val, binD, cmpR, cmpD, ofB, List.replicate, tupD]
theorem Row.one {x : Int} {xs : List Int} (h : Row xs) (hx : x ∈ xs) : Row [x] := (List.singleton_sublist.mpr hx).trans h
theorem lot_t {b : Bool} {xs : List Int} (hr : Row xs) (hx : xs ≠ []) (dk : DkK ah) : ∃ ys ah', callN T (k + 3) 14 [.ref 1, sq b xs] ah = some (.v (tI ys), ah') ∧ DkK ah' ∧ Row ys := by
  rw [callN_at (fd := ⟨2, 3, b_law_lot⟩) rfl rfl]
  obtain ⟨ys, ah', e, dk', hs⟩ := part_t (k := k) (b := b) (n := 2) hr.len (by decide) dk
  by_cases hy : ys = []
  · subst hy
    have hl := hr.length_le
    obtain ⟨d, ah2, e2, dk2, hd⟩ := pick_t (k := k) (b := b) (ds := xs.map .int) (by simpa using hx) (by simp at hl ⊢; omega) dk'
    obtain ⟨x, hx2, rfl⟩ := List.mem_map.mp hd
    rw [← sD_sq] at e2
    refine ⟨[x], ah2, ?_, dk2, hr.one hx2⟩
    simp [runF, S.sem, fSeq, fIf, fRet, fRetN, fSkip, fDrop, fAsg, fAsgT, fPar, fPar3, asgRw, fFor, fMut, fPut, fUpd, E.v, E.a, E.i, E.o, E.c, sVar, sCon, sTup, sLst, aNil, aCons, vl, vv, sOp1, sOp2, sB, bE, bNot, bAnd, bOr, sAnd, sOr, sIte, sChn, sSl, oNone, oSome, sCall, sPop, sDnew, sDisp, sLrg, sShr, iOf, iRan1, iRan2, bYes, Cn.d, B1.sem, rr_tup, rr_lst, rr_scr, rr_dct, rr_int, rr_str, rr_bl, rr_non, rr_ref, rr_f, rr_o, Rw.val, binD, cmpR, cmpD, ofB, List.replicate, b_law_lot, e, eqD00, e2, big]
  · refine ⟨ys, ah', ?_, dk', hs.trans hr⟩
    have h0 := eqD_tI0 ys
    simp only [hy, decide_false] at h0
    simp [runF, S.sem, fSeq, fIf, fRet, fRetN, fSkip, fDrop, fAsg, fAsgT, fPar, fPar3, asgRw, fFor, fMut, fPut, fUpd, E.v, E.a, E.i, E.o, E.c, sVar, sCon, sTup, sLst, aNil, aCons, vl, vv, sOp1, sOp2, sB, bE, bNot, bAnd, bOr, sAnd, sOr, sIte, sChn, sSl, oNone, oSome, sCall, sPop, sDnew, sDisp, sLrg, sShr, iOf, iRan1, iRan2, bYes, Cn.d, B1.sem, rr_tup, rr_lst, rr_scr, rr_dct, rr_int, rr_str, rr_bl, rr_non, rr_ref, rr_f, rr_o, Rw.val, binD, cmpR, cmpD, ofB, List.replicate, b_law_lot, e, h0, big]
theorem toN {n : Int} (h : 0 ≤ n) (h2 : n ≤ 1000) : n < 4611686018427387904 ∧ -4611686018427387904 ≤ n := by omega
theorem fam_go {b : Bool} {xs : List Int} (hr : Row xs) (hx : xs ≠ []) {n : Nat} (hn : n ≤ 1000) {x4 : Sl} {m : D} (dk : DkK ah) : ∃ L ah' y4, forGo (.nm 4) ((innF b_law_family).sem (callN T (k + 3))) (rngD 0 n) [.va (.ref 1), .va (sq b xs), .va m, .ow (.dct []), x4] ah = some (.nx [.va (.ref 1), .va (sq b xs), .va m, .ow (.dct (kS L)), y4] ah') ∧ DkK ah' ∧ L.length ≤ n ∧ ∀ a ∈ L, Row a := by
  obtain ⟨env', ah', e, dk', L, y4, rfl, h1, h2⟩ := for_at (fun i : Nat => D.int (0 + (i : Int))) (t := .nm 4) (f := (innF b_law_family).sem (callN T (k + 3)))
    (fun done env ah => DkK ah ∧ ∃ (L : List (List Int)) (x4 : Sl), env = [.va (.ref 1), .va (sq b xs), .va m, .ow (.dct (kS L)), x4] ∧ L.length ≤ done.length ∧ ∀ a ∈ L, Row a) (xs := List.range n) (done := [])
    (env := [.va (.ref 1), .va (sq b xs), .va m, .ow (.dct []), x4]) (ah := ah) ⟨dk, [], x4, rfl, Nat.le_refl _, by simp⟩
    (fun i rest done env ah hd ⟨dk, L, x4, he, h1, h2⟩ => by
      subst he
      have hdl : done.length + 1 ≤ 1000 := by have := congrArg List.length hd; simp at this; omega
      obtain ⟨ys, ah', e, dk', ry⟩ := lot_t (k := k) (b := b) hr hx dk
      have hb : big = 1000000 := rfl
      have hp := dput_kS L ys (by omega)
      refine ⟨[.va (.ref 1), .va (sq b xs), .va m, .ow (.dct (kS L)), .va (.int (0 + (i : Int)))], rfl, [.va (.ref 1), .va (sq b xs), .va m, .ow (.dct (kS (addL L ys))), .va (.int (0 + (i : Int)))], ah', ?_, dk', addL L ys, _, rfl, by have := @addL_len L ys; simp; omega, fun a ha => (addL_mem.mp ha).elim (h2 a) fun e => e ▸ ry⟩
      simp [runF, S.sem, fSeq, fIf, fRet, fRetN, fSkip, fDrop, fAsg, fAsgT, fPar, fPar3, asgRw, fFor, fMut, fPut, fUpd, E.v, E.a, E.i, E.o, E.c, sVar, sCon, sTup, sLst, aNil, aCons, vl, vv, sOp1, sOp2, sB, bE, bNot, bAnd, bOr, sAnd, sOr, sIte, sChn, sSl, oNone, oSome, sCall, sPop, sDnew, sDisp, sLrg, sShr, iOf, iRan1, iRan2, bYes, Cn.d, B1.sem, rr_tup, rr_lst, rr_scr, rr_dct, rr_int, rr_str, rr_bl, rr_non, rr_ref, rr_f, rr_o, Rw.val, binD, cmpR, cmpD, ofB, List.replicate, b_law_family, innF, e, locOf, at', upE, upA, putAt, hp])
  refine ⟨L, ah', y4, e, dk', by simpa using h1, h2⟩
theorem family_t {b : Bool} {xs : List Int} (hr : Row xs) (hx : xs ≠ []) (dk : DkK ah) : ∃ (F : List (List Int)) (ah' : AH), callN T (k + 4) 15 [.ref 1, sq b xs, .int 3] ah = some (.v (.tup (F.map tI)), ah') ∧ DkK ah' ∧ F.length ≤ 3 ∧ ∀ a ∈ F, Row a := by
  rw [callN_at (fd := ⟨3, 5, b_law_family⟩) rfl rfl]
  obtain ⟨r, ah1, e1, dk1, r0, r1⟩ := draw_t (k := k + 2) (n := 3) (by decide) dk
  obtain ⟨L, ah2, y4, e2, dk2, h1, h2⟩ := fam_go (k := k) (b := b) hr hx (n := (1 + r).toNat) (by omega) (x4 := .un) (m := .int 3) dk1
  obtain ⟨L', e3, p⟩ := sort_tI L
  refine ⟨L', ah2, ?_, dk2, by rw [p.length_eq]; omega, fun a ha => h2 a (p.mem_iff.mp ha)⟩
  have hn := toN (n := 1 + r) (by omega) (by omega)
  have hl : lstD (.dct (kS L)) = some (.f (.lst (L.map tI))) := by rw [lstD, keys_kS]
  simp [runF, S.sem, fSeq, fIf, fRet, fRetN, fSkip, fDrop, fAsg, fAsgT, fPar, fPar3, asgRw, fFor, fMut, fPut, fUpd, E.v, E.a, E.i, E.o, E.c, sVar, sCon, sTup, sLst, aNil, aCons, vl, vv, sOp1, sOp2, sB, bE, bNot, bAnd, bOr, sAnd, sOr, sIte, sChn, sSl, oNone, oSome, sCall, sPop, sDnew, sDisp, sLrg, sShr, iOf, iRan1, iRan2, bYes, Cn.d, B1.sem, rr_tup, rr_lst, rr_scr, rr_dct, rr_int, rr_str, rr_bl, rr_non, rr_ref, rr_f, rr_o, Rw.val, binD, cmpR, cmpD, ofB, List.replicate, b_law_family, innF] at e2
  simp [runF, S.sem, fSeq, fIf, fRet, fRetN, fSkip, fDrop, fAsg, fAsgT, fPar, fPar3, asgRw, fFor, fMut, fPut, fUpd, E.v, E.a, E.i, E.o, E.c, sVar, sCon, sTup, sLst, aNil, aCons, vl, vv, sOp1, sOp2, sB, bE, bNot, bAnd, bOr, sAnd, sOr, sIte, sChn, sSl, oNone, oSome, sCall, sPop, sDnew, sDisp, sLrg, sShr, iOf, iRan1, iRan2, bYes, Cn.d, B1.sem, rr_tup, rr_lst, rr_scr, rr_dct, rr_int, rr_str, rr_bl, rr_non, rr_ref, rr_f, rr_o, Rw.val, binD, cmpR, cmpD, ofB, List.replicate, b_law_family, e1, addD_i, hn.1, hn.2]
  rw [e2]
  simp [runF, S.sem, fSeq, fIf, fRet, fRetN, fSkip, fDrop, fAsg, fAsgT, fPar, fPar3, asgRw, fFor, fMut, fPut, fUpd, E.v, E.a, E.i, E.o, E.c, sVar, sCon, sTup, sLst, aNil, aCons, vl, vv, sOp1, sOp2, sB, bE, bNot, bAnd, bOr, sAnd, sOr, sIte, sChn, sSl, oNone, oSome, sCall, sPop, sDnew, sDisp, sLrg, sShr, iOf, iRan1, iRan2, bYes, Cn.d, B1.sem, rr_tup, rr_lst, rr_scr, rr_dct, rr_int, rr_str, rr_bl, rr_non, rr_ref, rr_f, rr_o, Rw.val, binD, cmpR, cmpD, ofB, List.replicate, hl, e3, tupD]
end
end U.k83
namespace U.k83
open PySem PySem.Spec PyProof.Rows L2 U
section
variable {k : Nat} {ah : AH}
theorem Row.nd {x : List Int} (h : Row x) : x.Nodup := h.nodup (by decide)
theorem snoc_inj {x : Int} {a b : List Int} (h : a ++ [x] = b ++ [x]) : a = b := List.append_cancel_right h
theorem subs_go {b : Bool} {xs : List Int} (hr : Row xs) {x2 x3 : Sl} : ∃ (F : List (List Int)) (y2 : Sl), forGo (.nm 2) ((innF b_law_subsets).sem (callN T k)) (xs.map .int) [.va (sq b xs), .va (.lst [.tup []]), x2, .un] ah = some (.nx [.va (sq b xs), .va (.lst (F.map tI)), y2, .un] ah) ∧ F.Nodup ∧ (∀ a ∈ F, a.Sublist xs) ∧ F.length = 2 ^ xs.length := by
  obtain ⟨env', ah', e, rfl, F, y2, rfl, h1, h2, h3⟩ := for_at D.int (t := .nm 2) (f := (innF b_law_subsets).sem (callN T k))
    (fun done env ah' => ah' = ah ∧ ∃ (F : List (List Int)) (y2 : Sl), env = [.va (sq b xs), .va (.lst (F.map tI)), y2, .un] ∧ F.Nodup ∧ (∀ a ∈ F, a.Sublist done) ∧ F.length = 2 ^ done.length) (xs := xs) (done := [])
    (env := [.va (sq b xs), .va (.lst [.tup []]), x2, .un]) (ah := ah) ⟨rfl, [[]], x2, rfl, by simp, by simp, rfl⟩
    (fun x rest done env ah' hd ⟨ha, F, y2, he, h1, h2, h3⟩ => by
      subst he ha
      rw [List.nil_append] at hd
      have hl := hr.length_le
      have hdl : done.length + 1 ≤ 6 := by have := congrArg List.length hd; simp at this hl; omega
      have hp : 2 ^ done.length ≤ 2 ^ 5 := Nat.pow_le_pow_right (by decide) (by omega)
      have hb : big = 1000000 := rfl
      have eA := ev_lc tI (G := callN T k) (t := .nm 3) (vs := [3]) (w := .it (.var 1)) (c := .no) (e := .bin .Add (.var 3) (.tup (.cons (.var 2) .nil))) (env := [.va (sq b xs), .va (.lst (F.map tI)), .va (.int x), .un]) (ah := ah') (gu := none) (fun _ => true) (fun a => tI (a ++ [x])) (xs := F) rfl (by simp [tgIn, noOw, isOw]; omega)
        (fun a hx => ⟨[.va (sq b xs), .va (.lst (F.map tI)), .va (.int x), .va (tI a)], rfl, rfl, fun _ => by
          have la := (h2 a hx).length_le
          have : addD (tI a) (.tup [.int x]) = some (.v (tI (a ++ [x]))) := by
            show (if (a.map D.int).length + 1 ≤ big then some (Rw.v (.tup (a.map .int ++ [.int x]))) else none) = _
            rw [if_pos (by rw [List.length_map]; omega), tI, List.map_append]
            rfl
          simp [runF, S.sem, fSeq, fIf, fRet, fRetN, fSkip, fDrop, fAsg, fAsgT, fPar, fPar3, asgRw, fFor, fMut, fPut, fUpd, E.v, E.a, E.i, E.o, E.c, sVar, sCon, sTup, sLst, aNil, aCons, vl, vv, sOp1, sOp2, sB, bE, bNot, bAnd, bOr, sAnd, sOr, sIte, sChn, sSl, oNone, oSome, sCall, sPop, sDnew, sDisp, sLrg, sShr, iOf, iRan1, iRan2, bYes, Cn.d, B1.sem, rr_tup, rr_lst, rr_scr, rr_dct, rr_int, rr_str, rr_bl, rr_non, rr_ref, rr_f, rr_o, Rw.val, binD, cmpR, cmpD, ofB, List.replicate, this, big]⟩)
      have hx : x ∉ done := by
        have nd := hr.nd
        rw [hd, List.nodup_append] at nd
        exact fun z => nd.2.2 x z x (by simp) rfl
      have hadd : addD (.lst (F.map tI)) (.lst ((F.filter fun _ => true).map fun a => tI (a ++ [x]))) = some (.f (.lst ((F ++ F.map (· ++ [x])).map tI))) := by
        show (if (F.map tI).length + ((F.filter fun _ => true).map fun a => tI (a ++ [x])).length ≤ big then some (Rw.f (.lst (F.map tI ++ (F.filter fun _ => true).map fun a => tI (a ++ [x])))) else none) = _
        have ef : F.filter (fun _ => true) = F := List.filter_eq_self.mpr fun _ _ => rfl
        rw [ef, if_pos (by rw [List.length_map, List.length_map]; omega), List.map_append, List.map_map]
        rfl
      refine ⟨[.va (sq b xs), .va (.lst (F.map tI)), .va (.int x), .un], rfl, [.va (sq b xs), .va (.lst ((F ++ F.map (· ++ [x])).map tI)), .va (.int x), .un], ah', ?_, rfl, F ++ F.map (· ++ [x]), _, rfl, ?_, ?_, ?_⟩
      · simp [E.v, E.a, E.i, E.o, E.c, Cn.d, B1.sem] at eA
        simp only [binD] at eA
        simp [runF, S.sem, fSeq, fIf, fRet, fRetN, fSkip, fDrop, fAsg, fAsgT, fPar, fPar3, asgRw, fFor, fMut, fPut, fUpd, E.v, E.a, E.i, E.o, E.c, sVar, sCon, sTup, sLst, aNil, aCons, vl, vv, sOp1, sOp2, sB, bE, bNot, bAnd, bOr, sAnd, sOr, sIte, sChn, sSl, oNone, oSome, sCall, sPop, sDnew, sDisp, sLrg, sShr, iOf, iRan1, iRan2, bYes, Cn.d, B1.sem, rr_tup, rr_lst, rr_scr, rr_dct, rr_int, rr_str, rr_bl, rr_non, rr_ref, rr_f, rr_o, Rw.val, binD, cmpR, cmpD, ofB, List.replicate, b_law_subsets, innF]
        rw [eA, Option.bind_some, rr_f, Option.bind_some, hadd]
        simp
      · rw [List.nodup_append]
        refine ⟨h1, h1.map _ fun a b hne e => hne (snoc_inj e), fun a ha b hb e => ?_⟩
        obtain ⟨c, _, rfl⟩ := List.mem_map.mp hb
        exact hx ((h2 a ha).subset (by rw [e]; simp))
      · intro a ha
        rcases List.mem_append.mp ha with ha | ha
        · exact (h2 a ha).trans (List.sublist_append_left ..)
        · obtain ⟨c, hc, rfl⟩ := List.mem_map.mp ha
          exact (h2 c hc).append (List.Sublist.refl _)
      · rw [List.length_append, List.length_map, h3, List.length_append, List.length_singleton, Nat.pow_succ]
        omega)
  exact ⟨F, y2, e, h1, h2, h3⟩
theorem subsets_t {b : Bool} {xs : List Int} (hr : Row xs) : ∃ F : List (List Int), callN T (k + 1) 13 [sq b xs] ah = some (.v (.lst (F.map tI)), ah) ∧ F.Nodup ∧ (∀ a ∈ F, a.Sublist xs) ∧ F.length ≤ 64 := by
  obtain ⟨F, y2, e, h1, h2, h3⟩ := subs_go (k := k) (ah := ah) (b := b) hr (x2 := .un) (x3 := .un)
  refine ⟨F, ?_, h1, h2, by rw [h3]; exact Nat.le_trans (Nat.pow_le_pow_right (by decide) hr.length_le) (by decide)⟩
  rw [callN_at (fd := ⟨1, 4, b_law_subsets⟩) rfl rfl]
  simp [runF, S.sem, fSeq, fIf, fRet, fRetN, fSkip, fDrop, fAsg, fAsgT, fPar, fPar3, asgRw, fFor, fMut, fPut, fUpd, E.v, E.a, E.i, E.o, E.c, sVar, sCon, sTup, sLst, aNil, aCons, vl, vv, sOp1, sOp2, sB, bE, bNot, bAnd, bOr, sAnd, sOr, sIte, sChn, sSl, oNone, oSome, sCall, sPop, sDnew, sDisp, sLrg, sShr, iOf, iRan1, iRan2, bYes, Cn.d, B1.sem, rr_tup, rr_lst, rr_scr, rr_dct, rr_int, rr_str, rr_bl, rr_non, rr_ref, rr_f, rr_o, Rw.val, binD, cmpR, cmpD, ofB, List.replicate, b_law_subsets, innF] at e
  have hi : E.i (callN T k) (.it (.var 0)) [.va (sq b xs), .va (.lst [.tup []]), .un, .un] ah = some ((xs.map .int, none), ah) := sq_it rfl
  simp [runF, S.sem, fSeq, fIf, fRet, fRetN, fSkip, fDrop, fAsg, fAsgT, fPar, fPar3, asgRw, fFor, fMut, fPut, fUpd, E.v, E.a, E.i, E.o, E.c, sVar, sCon, sTup, sLst, aNil, aCons, vl, vv, sOp1, sOp2, sB, bE, bNot, bAnd, bOr, sAnd, sOr, sIte, sChn, sSl, oNone, oSome, sCall, sPop, sDnew, sDisp, sLrg, sShr, iOf, iRan1, iRan2, bYes, Cn.d, B1.sem, rr_tup, rr_lst, rr_scr, rr_dct, rr_int, rr_str, rr_bl, rr_non, rr_ref, rr_f, rr_o, Rw.val, binD, cmpR, cmpD, ofB, List.replicate] at hi
  simp [runF, S.sem, fSeq, fIf, fRet, fRetN, fSkip, fDrop, fAsg, fAsgT, fPar, fPar3, asgRw, fFor, fMut, fPut, fUpd, E.v, E.a, E.i, E.o, E.c, sVar, sCon, sTup, sLst, aNil, aCons, vl, vv, sOp1, sOp2, sB, bE, bNot, bAnd, bOr, sAnd, sOr, sIte, sChn, sSl, oNone, oSome, sCall, sPop, sDnew, sDisp, sLrg, sShr, iOf, iRan1, iRan2, bYes, Cn.d, B1.sem, rr_tup, rr_lst, rr_scr, rr_dct, rr_int, rr_str, rr_bl, rr_non, rr_ref, rr_f, rr_o, Rw.val, binD, cmpR, cmpD, ofB, List.replicate, b_law_subsets, big]
  rw [hi]
  simp only [Option.bind_some]
  rw [e]
  rfl
theorem cut_len {α : Type} (xs : List α) (n : Nat) : cutD xs none (some (n : Int)) = xs.take n := by
  have e1 : HT.sIx xs.length xs.length (some (n : Int)) = min n xs.length := HT.sIx_nat ..
  have e0 : HT.sIx xs.length 0 none = 0 := rfl
  unfold cutD
  rw [e0, e1, List.drop_zero, Nat.sub_zero]
  by_cases h : n ≤ xs.length
  · rw [Nat.min_eq_left h]
  · rw [Nat.min_eq_right (by omega), List.take_length, List.take_of_length_le (by omega)]
theorem sized_t {b : Bool} {xs : List Int} {n : Int} (hr : Row xs) : ∃ F : List (List Int), callN T (k + 2) 16 [sq b xs, .int n] ah = some (.v (.tup (F.map tI)), ah) ∧ (∀ a ∈ F, Row a) ∧ F.length ≤ 10 := by
  obtain ⟨S0, e0, h1, h2, h3⟩ := subsets_t (k := k) (ah := ah) (b := b) hr
  have hb : big = 1000000 := rfl
  have eA := ev_lc tI (G := callN T (k + 1)) (t := .nm 2) (vs := [2]) (w := .it (.call 13 (.cons (.var 0) .nil))) (c := .yes (.and (.cmp .Eq (.b1 .len (.var 2)) (.var 1)) (.cmp .NotEq (.var 2) (.tup .nil)))) (e := .var 2) (env := [.va (sq b xs), .va (.int n), .un]) (ah := ah) (gu := none) (fun a => decide ((a.length : Int) = n) && !decide (a = [])) tI (xs := S0) (by simp [runF, S.sem, fSeq, fIf, fRet, fRetN, fSkip, fDrop, fAsg, fAsgT, fPar, fPar3, asgRw, fFor, fMut, fPut, fUpd, E.v, E.a, E.i, E.o, E.c, sVar, sCon, sTup, sLst, aNil, aCons, vl, vv, sOp1, sOp2, sB, bE, bNot, bAnd, bOr, sAnd, sOr, sIte, sChn, sSl, oNone, oSome, sCall, sPop, sDnew, sDisp, sLrg, sShr, iOf, iRan1, iRan2, bYes, Cn.d, B1.sem, rr_tup, rr_lst, rr_scr, rr_dct, rr_int, rr_str, rr_bl, rr_non, rr_ref, rr_f, rr_o, Rw.val, binD, cmpR, cmpD, ofB, List.replicate, e0]) (by simp [tgIn, noOw, isOw]; omega)
    (fun a hx => ⟨[.va (sq b xs), .va (.int n), .va (tI a)], rfl, by
      have hl : lenD (tI a) = some (.v (.int a.length)) := by rw [lenD, List.length_map]
      have hz := eqD_tI0 a
      have hn := eqD_int a.length n
      simp [runF, S.sem, fSeq, fIf, fRet, fRetN, fSkip, fDrop, fAsg, fAsgT, fPar, fPar3, asgRw, fFor, fMut, fPut, fUpd, E.v, E.a, E.i, E.o, E.c, sVar, sCon, sTup, sLst, aNil, aCons, vl, vv, sOp1, sOp2, sB, bE, bNot, bAnd, bOr, sAnd, sOr, sIte, sChn, sSl, oNone, oSome, sCall, sPop, sDnew, sDisp, sLrg, sShr, iOf, iRan1, iRan2, bYes, Cn.d, B1.sem, rr_tup, rr_lst, rr_scr, rr_dct, rr_int, rr_str, rr_bl, rr_non, rr_ref, rr_f, rr_o, Rw.val, binD, cmpR, cmpD, ofB, List.replicate, hl, hz, hn, big]
      by_cases c1 : (a.length : Int) = n <;> simp [c1], fun _ => by simp [runF, S.sem, fSeq, fIf, fRet, fRetN, fSkip, fDrop, fAsg, fAsgT, fPar, fPar3, asgRw, fFor, fMut, fPut, fUpd, E.v, E.a, E.i, E.o, E.c, sVar, sCon, sTup, sLst, aNil, aCons, vl, vv, sOp1, sOp2, sB, bE, bNot, bAnd, bOr, sAnd, sOr, sIte, sChn, sSl, oNone, oSome, sCall, sPop, sDnew, sDisp, sLrg, sShr, iOf, iRan1, iRan2, bYes, Cn.d, B1.sem, rr_tup, rr_lst, rr_scr, rr_dct, rr_int, rr_str, rr_bl, rr_non, rr_ref, rr_f, rr_o, Rw.val, binD, cmpR, cmpD, ofB, List.replicate]⟩)
  obtain ⟨L, e1, p⟩ := sort_tI (S0.filter fun a => decide ((a.length : Int) = n) && !decide (a = []))
  refine ⟨L.take 10, ?_, fun a ha => (h2 a (List.mem_filter.mp (p.mem_iff.mp (List.mem_of_mem_take ha))).1).trans hr, by rw [List.length_take]; omega⟩
  rw [callN_at (fd := ⟨2, 3, b_law_sized⟩) rfl rfl]
  have hc : slD (.lst (L.map tI)) none (some 10) = some (.f (.lst ((L.take 10).map tI))) := by
    rw [slD, show (10 : Int) = ((10 : Nat) : Int) from rfl, cut_len, List.map_take]
  simp [E.v, E.a, E.i, E.o, E.c, Cn.d, B1.sem] at eA
  simp [runF, S.sem, fSeq, fIf, fRet, fRetN, fSkip, fDrop, fAsg, fAsgT, fPar, fPar3, asgRw, fFor, fMut, fPut, fUpd, E.v, E.a, E.i, E.o, E.c, sVar, sCon, sTup, sLst, aNil, aCons, vl, vv, sOp1, sOp2, sB, bE, bNot, bAnd, bOr, sAnd, sOr, sIte, sChn, sSl, oNone, oSome, sCall, sPop, sDnew, sDisp, sLrg, sShr, iOf, iRan1, iRan2, bYes, Cn.d, B1.sem, rr_tup, rr_lst, rr_scr, rr_dct, rr_int, rr_str, rr_bl, rr_non, rr_ref, rr_f, rr_o, Rw.val, binD, cmpR, cmpD, ofB, List.replicate, b_law_sized]
  rw [eA]
  simp [runF, S.sem, fSeq, fIf, fRet, fRetN, fSkip, fDrop, fAsg, fAsgT, fPar, fPar3, asgRw, fFor, fMut, fPut, fUpd, E.v, E.a, E.i, E.o, E.c, sVar, sCon, sTup, sLst, aNil, aCons, vl, vv, sOp1, sOp2, sB, bE, bNot, bAnd, bOr, sAnd, sOr, sIte, sChn, sSl, oNone, oSome, sCall, sPop, sDnew, sDisp, sLrg, sShr, iOf, iRan1, iRan2, bYes, Cn.d, B1.sem, rr_tup, rr_lst, rr_scr, rr_dct, rr_int, rr_str, rr_bl, rr_non, rr_ref, rr_f, rr_o, Rw.val, binD, cmpR, cmpD, ofB, List.replicate, e1, hc, tupD]
end
end U.k83
namespace U.k83
open PySem PySem.Spec PyProof.Rows L2 U
section
variable {k : Nat} {ah : AH}
theorem joins_go {b : Bool} {xs : List Int} (hr : Row xs) (hx : xs ≠ []) {n : Nat} (hn : n ≤ 1000) (dk : DkK ah) : ∃ (L : List (List Int × List Int)) (ah' : AH) (y3 y4 y5 : Sl), forGo (.nm 3) ((innF b_law_joins).sem (callN T (k + 3))) (rngD 0 n) [.va (.ref 1), .va (sq b xs), .ow (.dct []), .un, .un, .un, .un] ah = some (.nx [.va (.ref 1), .va (sq b xs), .ow (.dct (kE tP L)), y3, y4, y5, .un] ah') ∧ DkK ah' ∧ L.length ≤ n ∧ ∀ a ∈ L, Row a.1 ∧ Row a.2 := by
  obtain ⟨env', ah', e, dk', L, y3, y4, y5, rfl, h1, h2⟩ := for_at (fun i : Nat => D.int (0 + (i : Int))) (t := .nm 3) (f := (innF b_law_joins).sem (callN T (k + 3)))
    (fun done env ah => DkK ah ∧ ∃ (L : List (List Int × List Int)) (y3 y4 y5 : Sl), env = [.va (.ref 1), .va (sq b xs), .ow (.dct (kE tP L)), y3, y4, y5, .un] ∧ L.length ≤ done.length ∧ ∀ a ∈ L, Row a.1 ∧ Row a.2) (xs := List.range n) (done := [])
    (env := [.va (.ref 1), .va (sq b xs), .ow (.dct []), .un, .un, .un, .un]) (ah := ah) ⟨dk, [], .un, .un, .un, rfl, Nat.le_refl _, by simp⟩
    (fun i rest done env ah hd ⟨dk, L, y3, y4, y5, he, h1, h2⟩ => by
      subst he
      have hdl : done.length + 1 ≤ 1000 := by have := congrArg List.length hd; simp at this; omega
      obtain ⟨lot, ah1, e1, dk1, rl⟩ := lot_t (k := k) (b := b) hr hx dk
      have hb : big = 1000000 := rfl
      have eA := ev_lc D.int (G := callN T (k + 3)) (t := .nm 6) (vs := [6]) (w := .it (.var 1)) (c := .yes (.cmp .NotIn (.var 6) (.var 4))) (e := .var 6) (env := [.va (.ref 1), .va (sq b xs), .ow (.dct (kE tP L)), .va (.int (0 + (i : Int))), .va (tI lot), y5, .un]) (ah := ah1) (gu := none) (fun x => !decide (x ∈ lot)) D.int (xs := xs) (sq_it rfl) (by have := hr.len; simp [tgIn, noOw, isOw, this])
        (fun x hx => ⟨[.va (.ref 1), .va (sq b xs), .ow (.dct (kE tP L)), .va (.int (0 + (i : Int))), .va (tI lot), y5, .va (.int x)], rfl, by simp [runF, S.sem, fSeq, fIf, fRet, fRetN, fSkip, fDrop, fAsg, fAsgT, fPar, fPar3, asgRw, fFor, fMut, fPut, fUpd, E.v, E.a, E.i, E.o, E.c, sVar, sCon, sTup, sLst, aNil, aCons, vl, vv, sOp1, sOp2, sB, bE, bNot, bAnd, bOr, sAnd, sOr, sIte, sChn, sSl, oNone, oSome, sCall, sPop, sDnew, sDisp, sLrg, sShr, iOf, iRan1, iRan2, bYes, Cn.d, B1.sem, rr_tup, rr_lst, rr_scr, rr_dct, rr_int, rr_str, rr_bl, rr_non, rr_ref, rr_f, rr_o, Rw.val, binD, cmpR, cmpD, ofB, List.replicate, inD_tI], fun _ => by simp [runF, S.sem, fSeq, fIf, fRet, fRetN, fSkip, fDrop, fAsg, fAsgT, fPar, fPar3, asgRw, fFor, fMut, fPut, fUpd, E.v, E.a, E.i, E.o, E.c, sVar, sCon, sTup, sLst, aNil, aCons, vl, vv, sOp1, sOp2, sB, bE, bNot, bAnd, bOr, sAnd, sOr, sIte, sChn, sSl, oNone, oSome, sCall, sPop, sDnew, sDisp, sLrg, sShr, iOf, iRan1, iRan2, bYes, Cn.d, B1.sem, rr_tup, rr_lst, rr_scr, rr_dct, rr_int, rr_str, rr_bl, rr_non, rr_ref, rr_f, rr_o, Rw.val, binD, cmpR, cmpD, ofB, List.replicate]⟩)
      simp [E.v, E.a, E.i, E.o, E.c, Cn.d, B1.sem] at eA
      have hz := eqD_lst0 _ (flats_int 59 (xs.filter fun x => !decide (x ∈ lot)))
      rw [List.isEmpty_map] at hz
      by_cases hy : xs.filter (fun x => !decide (x ∈ lot)) = []
      · rw [hy] at eA hz
        refine ⟨[.va (.ref 1), .va (sq b xs), .ow (.dct (kE tP L)), .va (.int (0 + (i : Int))), y4, y5, .un], rfl, [.va (.ref 1), .va (sq b xs), .ow (.dct (kE tP L)), .va (.int (0 + (i : Int))), .va (tI lot), .va (.lst []), .un], ah1, ?_, dk1, L, _, _, _, rfl, by simp; omega, h2⟩
        have hz : eqD (.lst []) (.lst []) = some true := rfl
        simp [runF, S.sem, fSeq, fIf, fRet, fRetN, fSkip, fDrop, fAsg, fAsgT, fPar, fPar3, asgRw, fFor, fMut, fPut, fUpd, E.v, E.a, E.i, E.o, E.c, sVar, sCon, sTup, sLst, aNil, aCons, vl, vv, sOp1, sOp2, sB, bE, bNot, bAnd, bOr, sAnd, sOr, sIte, sChn, sSl, oNone, oSome, sCall, sPop, sDnew, sDisp, sLrg, sShr, iOf, iRan1, iRan2, bYes, Cn.d, B1.sem, rr_tup, rr_lst, rr_scr, rr_dct, rr_int, rr_str, rr_bl, rr_non, rr_ref, rr_f, rr_o, Rw.val, binD, cmpR, cmpD, ofB, List.replicate, b_law_joins, innF, e1]
        rw [eA]
        simp [runF, S.sem, fSeq, fIf, fRet, fRetN, fSkip, fDrop, fAsg, fAsgT, fPar, fPar3, asgRw, fFor, fMut, fPut, fUpd, E.v, E.a, E.i, E.o, E.c, sVar, sCon, sTup, sLst, aNil, aCons, vl, vv, sOp1, sOp2, sB, bE, bNot, bAnd, bOr, sAnd, sOr, sIte, sChn, sSl, oNone, oSome, sCall, sPop, sDnew, sDisp, sLrg, sShr, iOf, iRan1, iRan2, bYes, Cn.d, B1.sem, rr_tup, rr_lst, rr_scr, rr_dct, rr_int, rr_str, rr_bl, rr_non, rr_ref, rr_f, rr_o, Rw.val, binD, cmpR, cmpD, ofB, List.replicate, hz, big]
      · have he : (xs.filter fun x => !decide (x ∈ lot)).isEmpty = false := by
          cases h : xs.filter (fun x => !decide (x ∈ lot)) with
          | nil => exact absurd h hy
          | cons a r => rfl
        rw [he] at hz
        obtain ⟨l2, ah2, e2, dk2, rl2⟩ := lot_t (k := k) (b := false) (hr.filter _) hy dk1
        have e2 : callN T (k + 3) 14 [.ref 1, .lst ((xs.filter fun x => !decide (x ∈ lot)).map .int)] ah1 = some (.v (tI l2), ah2) := e2
        have hp := dput_tP L (l2, lot) (by omega)
        generalize xs.filter (fun x => !decide (x ∈ lot)) = oth at *
        refine ⟨[.va (.ref 1), .va (sq b xs), .ow (.dct (kE tP L)), .va (.int (0 + (i : Int))), y4, y5, .un], rfl, [.va (.ref 1), .va (sq b xs), .ow (.dct (kE tP (addE L (l2, lot)))), .va (.int (0 + (i : Int))), .va (tI lot), .va (.lst (oth.map .int)), .un], ah2, ?_, dk2, addE L (l2, lot), _, _, _, rfl, by have := addE_len (L := L) (x := (l2, lot)); simp; omega, fun a ha => (addE_mem.mp ha).elim (h2 a) fun e => by rw [e]; exact ⟨rl2, rl⟩⟩
        simp [runF, S.sem, fSeq, fIf, fRet, fRetN, fSkip, fDrop, fAsg, fAsgT, fPar, fPar3, asgRw, fFor, fMut, fPut, fUpd, E.v, E.a, E.i, E.o, E.c, sVar, sCon, sTup, sLst, aNil, aCons, vl, vv, sOp1, sOp2, sB, bE, bNot, bAnd, bOr, sAnd, sOr, sIte, sChn, sSl, oNone, oSome, sCall, sPop, sDnew, sDisp, sLrg, sShr, iOf, iRan1, iRan2, bYes, Cn.d, B1.sem, rr_tup, rr_lst, rr_scr, rr_dct, rr_int, rr_str, rr_bl, rr_non, rr_ref, rr_f, rr_o, Rw.val, binD, cmpR, cmpD, ofB, List.replicate, b_law_joins, innF, e1]
        rw [eA]
        simp [runF, S.sem, fSeq, fIf, fRet, fRetN, fSkip, fDrop, fAsg, fAsgT, fPar, fPar3, asgRw, fFor, fMut, fPut, fUpd, E.v, E.a, E.i, E.o, E.c, sVar, sCon, sTup, sLst, aNil, aCons, vl, vv, sOp1, sOp2, sB, bE, bNot, bAnd, bOr, sAnd, sOr, sIte, sChn, sSl, oNone, oSome, sCall, sPop, sDnew, sDisp, sLrg, sShr, iOf, iRan1, iRan2, bYes, Cn.d, B1.sem, rr_tup, rr_lst, rr_scr, rr_dct, rr_int, rr_str, rr_bl, rr_non, rr_ref, rr_f, rr_o, Rw.val, binD, cmpR, cmpD, ofB, List.replicate, hz, e2, big, locOf, at', upE, upA, putAt, hp])
  refine ⟨L, ah', y3, y4, y5, e, dk', by simpa using h1, h2⟩
theorem joins_t {b : Bool} {xs : List Int} (hr : Row xs) (hx : xs ≠ []) (dk : DkK ah) : ∃ (F : List (List Int × List Int)) (ah' : AH), callN T (k + 4) 17 [.ref 1, sq b xs] ah = some (.v (.tup (F.map eP)), ah') ∧ DkK ah' ∧ F.length ≤ 3 ∧ ∀ a ∈ F, Row a.1 ∧ Row a.2 := by
  rw [callN_at (fd := ⟨2, 7, b_law_joins⟩) rfl rfl]
  obtain ⟨r, ah1, e1, dk1, r0, r1⟩ := draw_t (k := k + 2) (n := 4) (by decide) dk
  obtain ⟨L, ah2, y3, y4, y5, e2, dk2, h1, h2⟩ := joins_go (k := k) (b := b) hr hx (n := r.toNat) (by omega) dk1
  obtain ⟨L', e3, p⟩ := sort_tP L
  refine ⟨L', ah2, ?_, dk2, by rw [p.length_eq]; omega, fun a ha => h2 a (p.mem_iff.mp ha)⟩
  have hn := toN (n := r) (by omega) (by omega)
  have hl : lstD (.dct (kE tP L)) = some (.f (.lst (L.map tP))) := by rw [lstD, keys_kE]
  simp [runF, S.sem, fSeq, fIf, fRet, fRetN, fSkip, fDrop, fAsg, fAsgT, fPar, fPar3, asgRw, fFor, fMut, fPut, fUpd, E.v, E.a, E.i, E.o, E.c, sVar, sCon, sTup, sLst, aNil, aCons, vl, vv, sOp1, sOp2, sB, bE, bNot, bAnd, bOr, sAnd, sOr, sIte, sChn, sSl, oNone, oSome, sCall, sPop, sDnew, sDisp, sLrg, sShr, iOf, iRan1, iRan2, bYes, Cn.d, B1.sem, rr_tup, rr_lst, rr_scr, rr_dct, rr_int, rr_str, rr_bl, rr_non, rr_ref, rr_f, rr_o, Rw.val, binD, cmpR, cmpD, ofB, List.replicate, b_law_joins, innF] at e2
  simp [runF, S.sem, fSeq, fIf, fRet, fRetN, fSkip, fDrop, fAsg, fAsgT, fPar, fPar3, asgRw, fFor, fMut, fPut, fUpd, E.v, E.a, E.i, E.o, E.c, sVar, sCon, sTup, sLst, aNil, aCons, vl, vv, sOp1, sOp2, sB, bE, bNot, bAnd, bOr, sAnd, sOr, sIte, sChn, sSl, oNone, oSome, sCall, sPop, sDnew, sDisp, sLrg, sShr, iOf, iRan1, iRan2, bYes, Cn.d, B1.sem, rr_tup, rr_lst, rr_scr, rr_dct, rr_int, rr_str, rr_bl, rr_non, rr_ref, rr_f, rr_o, Rw.val, binD, cmpR, cmpD, ofB, List.replicate, b_law_joins, e1, hn.1, hn.2]
  rw [e2]
  simp [runF, S.sem, fSeq, fIf, fRet, fRetN, fSkip, fDrop, fAsg, fAsgT, fPar, fPar3, asgRw, fFor, fMut, fPut, fUpd, E.v, E.a, E.i, E.o, E.c, sVar, sCon, sTup, sLst, aNil, aCons, vl, vv, sOp1, sOp2, sB, bE, bNot, bAnd, bOr, sAnd, sOr, sIte, sChn, sSl, oNone, oSome, sCall, sPop, sDnew, sDisp, sLrg, sShr, iOf, iRan1, iRan2, bYes, Cn.d, B1.sem, rr_tup, rr_lst, rr_scr, rr_dct, rr_int, rr_str, rr_bl, rr_non, rr_ref, rr_f, rr_o, Rw.val, binD, cmpR, cmpD, ofB, List.replicate, hl, e3, tupD]
end
end U.k83
namespace U.k83
open PySem PySem.Spec PyProof.Rows L2 U
section
variable {k : Nat} {ah : AH}
def rI (n : Nat) : List Int := (List.range n).map fun (i : Nat) => 0 + (i : Int)
theorem rI_D (n : Nat) : rngD 0 n = (rI n).map .int := by unfold rngD rI; rw [List.map_map]; rfl
theorem rI_row {n : Nat} (h : n ≤ 6) : Row (rI n) := by
  have : ∀ m : _root_.Fin 7, (rI m.val).Sublist [0, 1, 2, 3, 4, 5] := by decide
  exact this ⟨n, by omega⟩
abbrev innS : S → S
  | .seq _ (.seq _ (.seq _ (.seq (.for _ _ b) _))) => b
  | _ => .skip
theorem sky_go {xs bells : List Int} (hr : Row xs) {m1 m2 : D} {n : Nat} (hn : n ≤ 1000) (dk : DkK ah) : ∃ (L : List (List Int × List Int)) (ah' : AH) (y6 : Sl), forGo (.nm 6) ((innS b_law_sky).sem (callN T (k + 2))) (rngD 0 n) [.va (.ref 1), .va m1, .va m2, .va (.lst (xs.map .int)), .ow (.dct []), .va (tI bells), .un] ah = some (.nx [.va (.ref 1), .va m1, .va m2, .va (.lst (xs.map .int)), .ow (.dct (kE tP L)), .va (tI bells), y6] ah') ∧ DkK ah' ∧ L.length ≤ n ∧ ∀ a ∈ L, Row a.1 ∧ Row a.2 := by
  obtain ⟨env', ah', e, dk', L, y6, rfl, h1, h2⟩ := for_at (fun i : Nat => D.int (0 + (i : Int))) (t := .nm 6) (f := (innS b_law_sky).sem (callN T (k + 2)))
    (fun done env ah => DkK ah ∧ ∃ (L : List (List Int × List Int)) (y6 : Sl), env = [.va (.ref 1), .va m1, .va m2, .va (.lst (xs.map .int)), .ow (.dct (kE tP L)), .va (tI bells), y6] ∧ L.length ≤ done.length ∧ ∀ a ∈ L, Row a.1 ∧ Row a.2) (xs := List.range n) (done := [])
    (env := [.va (.ref 1), .va m1, .va m2, .va (.lst (xs.map .int)), .ow (.dct []), .va (tI bells), .un]) (ah := ah) ⟨dk, [], .un, rfl, Nat.le_refl _, by simp⟩
    (fun i rest done env ah hd ⟨dk, L, y6, he, h1, h2⟩ => by
      subst he
      have hdl : done.length + 1 ≤ 1000 := by have := congrArg List.length hd; simp at this; omega
      obtain ⟨a1, ah1, e1, dk1, s1⟩ := part_t (k := k) (b := false) (n := 3) hr.len (by decide) dk
      obtain ⟨a2, ah2, e2, dk2, s2⟩ := part_t (k := k) (b := false) (n := 3) hr.len (by decide) dk1
      have e1 : callN T (k + 2) 10 [.ref 1, .lst (xs.map .int), .int 3] ah = some (.v (tI a1), ah1) := e1
      have e2 : callN T (k + 2) 10 [.ref 1, .lst (xs.map .int), .int 3] ah1 = some (.v (tI a2), ah2) := e2
      have hb : big = 1000000 := rfl
      have hp := dput_tP L (a1, a2) (by omega)
      refine ⟨[.va (.ref 1), .va m1, .va m2, .va (.lst (xs.map .int)), .ow (.dct (kE tP L)), .va (tI bells), .va (.int (0 + (i : Int)))], rfl, [.va (.ref 1), .va m1, .va m2, .va (.lst (xs.map .int)), .ow (.dct (kE tP (addE L (a1, a2)))), .va (tI bells), .va (.int (0 + (i : Int)))], ah2, ?_, dk2, addE L (a1, a2), _, rfl, by have := addE_len (L := L) (x := (a1, a2)); simp; omega, fun a ha => (addE_mem.mp ha).elim (h2 a) fun e => by rw [e]; exact ⟨s1.trans hr, s2.trans hr⟩⟩
      simp [runF, S.sem, fSeq, fIf, fRet, fRetN, fSkip, fDrop, fAsg, fAsgT, fPar, fPar3, asgRw, fFor, fMut, fPut, fUpd, E.v, E.a, E.i, E.o, E.c, sVar, sCon, sTup, sLst, aNil, aCons, vl, vv, sOp1, sOp2, sB, bE, bNot, bAnd, bOr, sAnd, sOr, sIte, sChn, sSl, oNone, oSome, sCall, sPop, sDnew, sDisp, sLrg, sShr, iOf, iRan1, iRan2, bYes, Cn.d, B1.sem, rr_tup, rr_lst, rr_scr, rr_dct, rr_int, rr_str, rr_bl, rr_non, rr_ref, rr_f, rr_o, Rw.val, binD, cmpR, cmpD, ofB, List.replicate, b_law_sky, innS, e1, e2, big, locOf, at', upE, upA, putAt, hp])
  refine ⟨L, ah', y6, e, dk', by simpa using h1, h2⟩
theorem sky_t {most : Int} (hm : most = 4 ∨ most = 5) (dk : DkK ah) : ∃ (many : Int) (bells : List Int) (storms : List St2) (ah' : AH), callN T (k + 3) 11 [.ref 1, .int most] ah = some (.v (eSky many bells storms), ah') ∧ DkK ah' ∧ 0 ≤ many ∧ many ≤ 6 ∧ Row bells ∧ WS storms := by
  rw [callN_at (fd := ⟨2, 7, b_law_sky⟩) rfl rfl]
  obtain ⟨r, ah1, e1, dk1, r0, r1⟩ := draw_t (k := k + 1) (n := most - 1) (by omega) dk
  have h6 : (2 + r).toNat ≤ 6 := by omega
  have hr := rI_row h6
  obtain ⟨bells, ah2, e2, dk2, s2⟩ := part_t (k := k) (b := false) (n := 3) hr.len (by decide) dk1
  have e2 : callN T (k + 2) 10 [.ref 1, .lst ((rI (2 + r).toNat).map .int), .int 3] ah1 = some (.v (tI bells), ah2) := e2
  obtain ⟨r2, ah3, e3, dk3, r20, r21⟩ := draw_t (k := k + 1) (n := 4) (by decide) dk2
  obtain ⟨L, ah4, y6, e4, dk4, h1, h2⟩ := sky_go (k := k) (bells := bells) hr (m1 := .int most) (m2 := .int (2 + r)) (n := (1 + r2).toNat) (by omega) dk3
  obtain ⟨L', e5, p⟩ := sort_tP L
  refine ⟨2 + r, bells, L', ah4, ?_, dk4, by omega, by omega, s2.trans hr, by rw [p.length_eq]; omega, fun a ha => h2 a (p.mem_iff.mp ha)⟩
  have hn := toN (n := 1 + r2) (by omega) (by omega)
  have hl : lstD (.dct (kE tP L)) = some (.f (.lst (L.map tP))) := by rw [lstD, keys_kE]
  have hs : subD (.int most) (.int 1) = some (.v (.int (most - 1))) := rfl
  have hb : (0 ≤ 2 + r) ∧ (2 + r ≤ 1000000) := by omega
  simp [runF, S.sem, fSeq, fIf, fRet, fRetN, fSkip, fDrop, fAsg, fAsgT, fPar, fPar3, asgRw, fFor, fMut, fPut, fUpd, E.v, E.a, E.i, E.o, E.c, sVar, sCon, sTup, sLst, aNil, aCons, vl, vv, sOp1, sOp2, sB, bE, bNot, bAnd, bOr, sAnd, sOr, sIte, sChn, sSl, oNone, oSome, sCall, sPop, sDnew, sDisp, sLrg, sShr, iOf, iRan1, iRan2, bYes, Cn.d, B1.sem, rr_tup, rr_lst, rr_scr, rr_dct, rr_int, rr_str, rr_bl, rr_non, rr_ref, rr_f, rr_o, Rw.val, binD, cmpR, cmpD, ofB, List.replicate, b_law_sky, innS, rI_D] at e4
  simp [runF, S.sem, fSeq, fIf, fRet, fRetN, fSkip, fDrop, fAsg, fAsgT, fPar, fPar3, asgRw, fFor, fMut, fPut, fUpd, E.v, E.a, E.i, E.o, E.c, sVar, sCon, sTup, sLst, aNil, aCons, vl, vv, sOp1, sOp2, sB, bE, bNot, bAnd, bOr, sAnd, sOr, sIte, sChn, sSl, oNone, oSome, sCall, sPop, sDnew, sDisp, sLrg, sShr, iOf, iRan1, iRan2, bYes, Cn.d, B1.sem, rr_tup, rr_lst, rr_scr, rr_dct, rr_int, rr_str, rr_bl, rr_non, rr_ref, rr_f, rr_o, Rw.val, binD, cmpR, cmpD, ofB, List.replicate, b_law_sky, hs, e1, addD_i, hb.1, hb.2, big, rI_D, e2, e3, hn.1, hn.2]
  rw [e4]
  simp [runF, S.sem, fSeq, fIf, fRet, fRetN, fSkip, fDrop, fAsg, fAsgT, fPar, fPar3, asgRw, fFor, fMut, fPut, fUpd, E.v, E.a, E.i, E.o, E.c, sVar, sCon, sTup, sLst, aNil, aCons, vl, vv, sOp1, sOp2, sB, bE, bNot, bAnd, bOr, sAnd, sOr, sIte, sChn, sSl, oNone, oSome, sCall, sPop, sDnew, sDisp, sLrg, sShr, iOf, iRan1, iRan2, bYes, Cn.d, B1.sem, rr_tup, rr_lst, rr_scr, rr_dct, rr_int, rr_str, rr_bl, rr_non, rr_ref, rr_f, rr_o, Rw.val, binD, cmpR, cmpD, ofB, List.replicate, hl, e5, tupD, big]
end
end U.k83
namespace U.k83
open PySem PySem.Spec PyProof.Rows L2 U
theorem seq_nx {G : Nat → FG} {a b : S} {env env' : Ev} {ah ah' : AH} (h : a.sem G env ah = some (.nx env' ah')) : (S.seq a b).sem G env ah = b.sem G env' ah' := by
  show ((a.sem G env ah).bind _) = _
  rw [h]
  rfl
abbrev hd : S → S
  | .seq a _ => a
  | _ => .skip
abbrev tl : S → S
  | .seq _ b => b
  | _ => .skip
abbrev sPlain : Str := { cps := #[112, 108, 97, 105, 110] }
abbrev sFree : Str := { cps := #[102, 114, 101, 101] }
section
variable {k : Nat} {ah : AH}
abbrev kEv (xs : List Int) (j : Bool) (r : List Sl) : Ev := [.va (.ref 1), .va (.lst (xs.map .int)), .va (.bl j), .va (.lst [.str sPlain, .str sFree])] ++ r
theorem eqD_tups0 (F : List (List Int)) : eqD (.tup (F.map tI)) (.tup []) = some F.isEmpty := by
  have := eqD_tup0 (F.map tI) (flats_map tI 59 (fun a => flat_tI 58 a) F)
  rwa [List.isEmpty_map] at this
theorem kind_mid {xs : List Int} (hr : Row xs) {j : Bool} {way size : Int} {F1 F2 : List (List Int)} (h1 : F1.length ≤ 10 ∧ ∀ a ∈ F1, Row a) (h2 : F2.length ≤ 10 ∧ ∀ a ∈ F2, Row a) :
    ∃ G1 G2 : List (List Int), (hd (tl (tl b_law_kind))).sem (callN T (k + 4)) (kEv xs j [.va (.int way), .va (.int size), .va (.tup (F1.map tI)), .va (.tup (F2.map tI)), .un]) ah = some (.nx (kEv xs j [.va (.int way), .va (.int size), .va (.tup (G1.map tI)), .va (.tup (G2.map tI)), .un]) ah) ∧ (G1.length ≤ 10 ∧ ∀ a ∈ G1, Row a) ∧ (G2.length ≤ 10 ∧ ∀ a ∈ G2, Row a) := by
  by_cases hw : way < 2
  · have e0 : ltD (.int way) (.int 2) = some true := by simp [ltD, hw]
    obtain ⟨G1, e1, a1, b1⟩ := sized_t (k := k + 2) (ah := ah) (b := false) (n := size) hr
    obtain ⟨G2, e2, a2, b2⟩ := sized_t (k := k + 2) (ah := ah) (b := false) (n := xs.length + way - size) hr
    have e1 : callN T (k + 4) 16 [.lst (xs.map .int), .int size] ah = some (.v (.tup (G1.map tI)), ah) := e1
    have e2 : callN T (k + 4) 16 [.lst (xs.map .int), .int (xs.length + way - size)] ah = some (.v (.tup (G2.map tI)), ah) := e2
    have hl : lenD (.lst (xs.map .int)) = some (.v (.int xs.length)) := by rw [lenD, List.length_map]
    have hs : ∀ a b : Int, subD (.int a) (.int b) = some (.v (.int (a - b))) := fun _ _ => rfl
    have hz := eqD_tups0 G2
    cases hg : G2.isEmpty with
    | true =>
      rw [hg] at hz
      refine ⟨G1, [xs], ?_, ⟨b1, a1⟩, by simp, by simpa using hr⟩
      simp [runF, S.sem, fSeq, fIf, fRet, fRetN, fSkip, fDrop, fAsg, fAsgT, fPar, fPar3, asgRw, fFor, fMut, fPut, fUpd, E.v, E.a, E.i, E.o, E.c, sVar, sCon, sTup, sLst, aNil, aCons, vl, vv, sOp1, sOp2, sB, bE, bNot, bAnd, bOr, sAnd, sOr, sIte, sChn, sSl, oNone, oSome, sCall, sPop, sDnew, sDisp, sLrg, sShr, iOf, iRan1, iRan2, bYes, Cn.d, B1.sem, rr_tup, rr_lst, rr_scr, rr_dct, rr_int, rr_str, rr_bl, rr_non, rr_ref, rr_f, rr_o, Rw.val, binD, cmpR, cmpD, ofB, List.replicate, b_law_kind, kEv, e0, hl, addD_i, hs, e1, e2, hz, tupD, big]
    | false =>
      rw [hg] at hz
      refine ⟨G1, G2, ?_, ⟨b1, a1⟩, b2, a2⟩
      simp [runF, S.sem, fSeq, fIf, fRet, fRetN, fSkip, fDrop, fAsg, fAsgT, fPar, fPar3, asgRw, fFor, fMut, fPut, fUpd, E.v, E.a, E.i, E.o, E.c, sVar, sCon, sTup, sLst, aNil, aCons, vl, vv, sOp1, sOp2, sB, bE, bNot, bAnd, bOr, sAnd, sOr, sIte, sChn, sSl, oNone, oSome, sCall, sPop, sDnew, sDisp, sLrg, sShr, iOf, iRan1, iRan2, bYes, Cn.d, B1.sem, rr_tup, rr_lst, rr_scr, rr_dct, rr_int, rr_str, rr_bl, rr_non, rr_ref, rr_f, rr_o, Rw.val, binD, cmpR, cmpD, ofB, List.replicate, b_law_kind, kEv, e0, hl, addD_i, hs, e1, e2, hz, tupD, big]
  · have e0 : ltD (.int way) (.int 2) = some false := by simp [ltD, hw]
    refine ⟨F1, F2, ?_, h1, h2⟩
    simp [runF, S.sem, fSeq, fIf, fRet, fRetN, fSkip, fDrop, fAsg, fAsgT, fPar, fPar3, asgRw, fFor, fMut, fPut, fUpd, E.v, E.a, E.i, E.o, E.c, sVar, sCon, sTup, sLst, aNil, aCons, vl, vv, sOp1, sOp2, sB, bE, bNot, bAnd, bOr, sAnd, sOr, sIte, sChn, sSl, oNone, oSome, sCall, sPop, sDnew, sDisp, sLrg, sShr, iOf, iRan1, iRan2, bYes, Cn.d, B1.sem, rr_tup, rr_lst, rr_scr, rr_dct, rr_int, rr_str, rr_bl, rr_non, rr_ref, rr_f, rr_o, Rw.val, binD, cmpR, cmpD, ofB, List.replicate, b_law_kind, kEv, e0]
theorem kind_mid2 {xs : List Int} (hr : Row xs) {j : Bool} {way size : Int} {F1 F2 : List (List Int)} (h2 : F2.length ≤ 10 ∧ ∀ a ∈ F2, Row a) :
    ∃ G2 : List (List Int), (hd (tl (tl (tl b_law_kind)))).sem (callN T (k + 4)) (kEv xs j [.va (.int way), .va (.int size), .va (.tup (F1.map tI)), .va (.tup (F2.map tI)), .un]) ah = some (.nx (kEv xs j [.va (.int way), .va (.int size), .va (.tup (F1.map tI)), .va (.tup (G2.map tI)), .un]) ah) ∧ (G2.length ≤ 10 ∧ ∀ a ∈ G2, Row a) := by
  have hz := eqD_int way 2
  by_cases hw : way = 2
  · refine ⟨[xs], ?_, by simp, by simpa using hr⟩
    rw [decide_eq_true hw] at hz
    simp [runF, S.sem, fSeq, fIf, fRet, fRetN, fSkip, fDrop, fAsg, fAsgT, fPar, fPar3, asgRw, fFor, fMut, fPut, fUpd, E.v, E.a, E.i, E.o, E.c, sVar, sCon, sTup, sLst, aNil, aCons, vl, vv, sOp1, sOp2, sB, bE, bNot, bAnd, bOr, sAnd, sOr, sIte, sChn, sSl, oNone, oSome, sCall, sPop, sDnew, sDisp, sLrg, sShr, iOf, iRan1, iRan2, bYes, Cn.d, B1.sem, rr_tup, rr_lst, rr_scr, rr_dct, rr_int, rr_str, rr_bl, rr_non, rr_ref, rr_f, rr_o, Rw.val, binD, cmpR, cmpD, ofB, List.replicate, b_law_kind, kEv, hz, tupD, big]
  · refine ⟨F2, ?_, h2⟩
    rw [decide_eq_false hw] at hz
    simp [runF, S.sem, fSeq, fIf, fRet, fRetN, fSkip, fDrop, fAsg, fAsgT, fPar, fPar3, asgRw, fFor, fMut, fPut, fUpd, E.v, E.a, E.i, E.o, E.c, sVar, sCon, sTup, sLst, aNil, aCons, vl, vv, sOp1, sOp2, sB, bE, bNot, bAnd, bOr, sAnd, sOr, sIte, sChn, sSl, oNone, oSome, sCall, sPop, sDnew, sDisp, sLrg, sShr, iOf, iRan1, iRan2, bYes, Cn.d, B1.sem, rr_tup, rr_lst, rr_scr, rr_dct, rr_int, rr_str, rr_bl, rr_non, rr_ref, rr_f, rr_o, Rw.val, binD, cmpR, cmpD, ofB, List.replicate, b_law_kind, kEv, hz, tupD, big]
theorem kind_t {xs : List Int} (hr : Row xs) (hx : xs ≠ []) {j : Bool} (dk : DkK ah) : ∃ (kd : Kd) (ah' : AH), callN T (k + 5) 18 [.ref 1, .lst (xs.map .int), .bl j, .lst [.str sPlain, .str sFree]] ah = some (.v (eK kd), ah') ∧ DkK ah' ∧ WK kd := by
  rw [callN_at (fd := ⟨4, 9, b_law_kind⟩) rfl rfl]
  have hll := hr.length_le
  have hll : xs.length ≤ 6 := hll
  obtain ⟨way, ah1, e1, dk1, _, _⟩ := draw_t (k := k + 3) (n := 4) (by decide) dk
  obtain ⟨sz, ah2, e2, dk2, _, _⟩ := draw_t (k := k + 3) (n := xs.length) (by omega) dk1
  obtain ⟨F1, ah3, e3, dk3, l3, r3⟩ := family_t (k := k) (b := false) hr hx dk2
  obtain ⟨F2, ah4, e4, dk4, l4, r4⟩ := family_t (k := k) (b := false) hr hx dk3
  have e3 : callN T (k + 4) 15 [.ref 1, .lst (xs.map .int), .int 3] ah2 = some (.v (.tup (F1.map tI)), ah3) := e3
  have e4 : callN T (k + 4) 15 [.ref 1, .lst (xs.map .int), .int 3] ah3 = some (.v (.tup (F2.map tI)), ah4) := e4
  obtain ⟨G1, G2, e5, w1, w2⟩ := kind_mid (k := k) (ah := ah4) hr (j := j) (way := way) (size := 1 + sz) (F1 := F1) (F2 := F2) ⟨by omega, r3⟩ ⟨by omega, r4⟩
  obtain ⟨G3, e6, w3⟩ := kind_mid2 (k := k) (ah := ah4) hr (j := j) (way := way) (size := 1 + sz) (F1 := G1) (F2 := G2) w2
  have hl : lenD (.lst (xs.map .int)) = some (.v (.int xs.length)) := by rw [lenD, List.length_map]
  have s1 : (hd b_law_kind).sem (callN T (k + 4)) (kEv xs j [.un, .un, .un, .un, .un]) ah = some (.nx (kEv xs j [.va (.int way), .va (.int (1 + sz)), .un, .un, .un]) ah2) := by
    simp [runF, S.sem, fSeq, fIf, fRet, fRetN, fSkip, fDrop, fAsg, fAsgT, fPar, fPar3, asgRw, fFor, fMut, fPut, fUpd, E.v, E.a, E.i, E.o, E.c, sVar, sCon, sTup, sLst, aNil, aCons, vl, vv, sOp1, sOp2, sB, bE, bNot, bAnd, bOr, sAnd, sOr, sIte, sChn, sSl, oNone, oSome, sCall, sPop, sDnew, sDisp, sLrg, sShr, iOf, iRan1, iRan2, bYes, Cn.d, B1.sem, rr_tup, rr_lst, rr_scr, rr_dct, rr_int, rr_str, rr_bl, rr_non, rr_ref, rr_f, rr_o, Rw.val, binD, cmpR, cmpD, ofB, List.replicate, b_law_kind, kEv, e1, hl, e2, addD_i]
  have s2 : (hd (tl b_law_kind)).sem (callN T (k + 4)) (kEv xs j [.va (.int way), .va (.int (1 + sz)), .un, .un, .un]) ah2 = some (.nx (kEv xs j [.va (.int way), .va (.int (1 + sz)), .va (.tup (F1.map tI)), .va (.tup (F2.map tI)), .un]) ah4) := by
    simp [runF, S.sem, fSeq, fIf, fRet, fRetN, fSkip, fDrop, fAsg, fAsgT, fPar, fPar3, asgRw, fFor, fMut, fPut, fUpd, E.v, E.a, E.i, E.o, E.c, sVar, sCon, sTup, sLst, aNil, aCons, vl, vv, sOp1, sOp2, sB, bE, bNot, bAnd, bOr, sAnd, sOr, sIte, sChn, sSl, oNone, oSome, sCall, sPop, sDnew, sDisp, sLrg, sShr, iOf, iRan1, iRan2, bYes, Cn.d, B1.sem, rr_tup, rr_lst, rr_scr, rr_dct, rr_int, rr_str, rr_bl, rr_non, rr_ref, rr_f, rr_o, Rw.val, binD, cmpR, cmpD, ofB, List.replicate, b_law_kind, kEv, e3, e4]
  have fin : ∃ (kd : Kd) (ah' : AH), ((tl (tl (tl (tl b_law_kind)))).sem (callN T (k + 4)) (kEv xs j [.va (.int way), .va (.int (1 + sz)), .va (.tup (G1.map tI)), .va (.tup (G3.map tI)), .un]) ah4) = some (.rt (.v (eK kd)) ah') ∧ DkK ah' ∧ WK kd := by
    cases j with
    | true =>
      obtain ⟨J, ah5, e7, dk5, l5, r5⟩ := joins_t (k := k) (b := false) hr hx dk4
      obtain ⟨hn, ah6, e8, dk6, r6⟩ := lot_t (k := k + 1) (b := false) hr hx dk5
      have e7 : callN T (k + 4) 17 [.ref 1, .lst (xs.map .int)] ah4 = some (.v (.tup (J.map eP)), ah5) := e7
      have e8 : callN T (k + 4) 14 [.ref 1, .lst (xs.map .int)] ah5 = some (.v (tI hn), ah6) := e8
      refine ⟨⟨sPlain, hn, G1, G3, J⟩, ah6, ?_, dk6, r6, w1.2, w3.2, w1.1, w3.1, l5, r5, show (sPlain.cps.toList.all fun c => decide (c < 16 ^ 8)) = true ∧ sPlain.length ≤ 10 from by decide⟩
      simp [runF, S.sem, fSeq, fIf, fRet, fRetN, fSkip, fDrop, fAsg, fAsgT, fPar, fPar3, asgRw, fFor, fMut, fPut, fUpd, E.v, E.a, E.i, E.o, E.c, sVar, sCon, sTup, sLst, aNil, aCons, vl, vv, sOp1, sOp2, sB, bE, bNot, bAnd, bOr, sAnd, sOr, sIte, sChn, sSl, oNone, oSome, sCall, sPop, sDnew, sDisp, sLrg, sShr, iOf, iRan1, iRan2, bYes, Cn.d, B1.sem, rr_tup, rr_lst, rr_scr, rr_dct, rr_int, rr_str, rr_bl, rr_non, rr_ref, rr_f, rr_o, Rw.val, binD, cmpR, cmpD, ofB, List.replicate, b_law_kind, kEv, e7, e8, big]
    | false =>
      obtain ⟨so, ah5, e7, dk5, m5⟩ := pick_t (k := k + 2) (b := false) (ds := [.str sPlain, .str sFree]) (by simp) (by simp) dk4
      obtain ⟨hn, ah6, e8, dk6, r6⟩ := lot_t (k := k + 1) (b := false) hr hx dk5
      have e7 : callN T (k + 4) 9 [.ref 1, .lst [.str sPlain, .str sFree]] ah4 = some (.v so, ah5) := e7
      have e8 : callN T (k + 4) 14 [.ref 1, .lst (xs.map .int)] ah5 = some (.v (tI hn), ah6) := e8
      obtain ⟨s, rfl, hs⟩ : ∃ s : Str, so = .str s ∧ (s.cps.toList.all fun c => decide (c < 16 ^ 8)) = true ∧ s.length ≤ 10 := by
        simp only [List.mem_cons, List.not_mem_nil, or_false] at m5
        exact m5.elim (fun h => ⟨_, h, by decide⟩) fun h => ⟨_, h, by decide⟩
      refine ⟨⟨s, hn, G1, G3, []⟩, ah6, ?_, dk6, r6, w1.2, w3.2, w1.1, w3.1, by simp, by simp, hs⟩
      simp [runF, S.sem, fSeq, fIf, fRet, fRetN, fSkip, fDrop, fAsg, fAsgT, fPar, fPar3, asgRw, fFor, fMut, fPut, fUpd, E.v, E.a, E.i, E.o, E.c, sVar, sCon, sTup, sLst, aNil, aCons, vl, vv, sOp1, sOp2, sB, bE, bNot, bAnd, bOr, sAnd, sOr, sIte, sChn, sSl, oNone, oSome, sCall, sPop, sDnew, sDisp, sLrg, sShr, iOf, iRan1, iRan2, bYes, Cn.d, B1.sem, rr_tup, rr_lst, rr_scr, rr_dct, rr_int, rr_str, rr_bl, rr_non, rr_ref, rr_f, rr_o, Rw.val, binD, cmpR, cmpD, ofB, List.replicate, b_law_kind, kEv, e7, e8, big]
  obtain ⟨kd, ah', e9, dk9, wk⟩ := fin
  refine ⟨kd, ah', ?_, dk9, wk⟩
  have : b_law_kind.sem (callN T (k + 4)) (kEv xs j [.un, .un, .un, .un, .un]) ah = some (.rt (.v (eK kd)) ah') := by
    rw [show b_law_kind = .seq (hd b_law_kind) (.seq (hd (tl b_law_kind)) (.seq (hd (tl (tl b_law_kind))) (.seq (hd (tl (tl (tl b_law_kind)))) (tl (tl (tl (tl b_law_kind))))))) from rfl]
    rw [seq_nx s1, seq_nx s2, seq_nx e5, seq_nx e6]
    exact e9
  show ((b_law_kind.sem (callN T (k + 4)) (kEv xs j [.un, .un, .un, .un, .un]) ah).bind _) = _
  rw [this]
  rfl
end
end U.k83
namespace U.k83
open PySem PySem.Spec PyProof.Rows L2 U
section
variable {k : Nat} {ah : AH}
theorem plan_go {many : Int} {bells : List Int} {storms : List St2} {j : Bool} (hm : 0 ≤ many ∧ many ≤ 6) {rows : List (List Int)} (hr : ∀ a ∈ rows, Row a) (hn : rows.length ≤ 8) (dk : DkK ah) : ∃ (pages : List Pg) (ah' : AH) (y5 y6 : Sl),
    forGo (.nm 5) ((innF b_law_plan_any).sem (callN T (k + 5))) (rows.map tI) [.va (.ref 1), .va (eSky many bells storms), .va (.bl j), .va (.lst [.str sPlain, .str sFree]), .ow (.lst []), .un, .un, .un] ah = some (.nx [.va (.ref 1), .va (eSky many bells storms), .va (.bl j), .va (.lst [.str sPlain, .str sFree]), .ow (.lst (pages.map ePg)), y5, y6, .un] ah') ∧ DkK ah' ∧ (pages.map (·.1)).Sublist rows ∧ ∀ p ∈ pages, WK p.2 := by
  obtain ⟨env', ah', e, dk', pages, y5, y6, rfl, h1, h2⟩ := for_at tI (t := .nm 5) (f := (innF b_law_plan_any).sem (callN T (k + 5)))
    (fun done env ah => DkK ah ∧ ∃ (pages : List Pg) (y5 y6 : Sl), env = [.va (.ref 1), .va (eSky many bells storms), .va (.bl j), .va (.lst [.str sPlain, .str sFree]), .ow (.lst (pages.map ePg)), y5, y6, .un] ∧ (pages.map (·.1)).Sublist done ∧ ∀ p ∈ pages, WK p.2) (xs := rows) (done := [])
    (env := [.va (.ref 1), .va (eSky many bells storms), .va (.bl j), .va (.lst [.str sPlain, .str sFree]), .ow (.lst []), .un, .un, .un]) (ah := ah) ⟨dk, [], .un, .un, rfl, .slnil, by simp⟩
    (fun rung rest done env ah hd ⟨dk, pages, y5, y6, he, h1, h2⟩ => by
      subst he
      have hdl : done.length + 1 ≤ 8 := by have := congrArg List.length hd; simp at this; omega
      have hpl : pages.length ≤ done.length := by have := h1.length_le; simpa using this
      have hm6 : many.toNat ≤ 6 := by omega
      have rr := rI_row hm6
      have hnm := toN hm.1 (by omega)
      have hb : big = 1000000 := rfl
      refine ⟨[.va (.ref 1), .va (eSky many bells storms), .va (.bl j), .va (.lst [.str sPlain, .str sFree]), .ow (.lst (pages.map ePg)), .va (tI rung), y6, .un], rfl, ?_⟩
      have eA := ev_lc D.int (G := callN T (k + 5)) (t := .nm 7) (vs := [7]) (w := .rng1 (.ix (.var 1) (.cn (.int 0)))) (c := .yes (.cmp .NotIn (.var 7) (.var 5))) (e := .var 7) (env := [.va (.ref 1), .va (eSky many bells storms), .va (.bl j), .va (.lst [.str sPlain, .str sFree]), .ow (.lst (pages.map ePg)), .va (tI rung), y6, .un]) (ah := ah) (gu := none) (fun x => !decide (x ∈ rung)) D.int (xs := rI many.toNat) (by simp [runF, S.sem, fSeq, fIf, fRet, fRetN, fSkip, fDrop, fAsg, fAsgT, fPar, fPar3, asgRw, fFor, fMut, fPut, fUpd, E.v, E.a, E.i, E.o, E.c, sVar, sCon, sTup, sLst, aNil, aCons, vl, vv, sOp1, sOp2, sB, bE, bNot, bAnd, bOr, sAnd, sOr, sIte, sChn, sSl, oNone, oSome, sCall, sPop, sDnew, sDisp, sLrg, sShr, iOf, iRan1, iRan2, bYes, Cn.d, B1.sem, rr_tup, rr_lst, rr_scr, rr_dct, rr_int, rr_str, rr_bl, rr_non, rr_ref, rr_f, rr_o, Rw.val, binD, cmpR, cmpD, ofB, List.replicate, atI0, ixD, hnm.1, hnm.2, rI_D]) (by have := rr.len; simp [tgIn, noOw, isOw, this])
        (fun x hx => ⟨[.va (.ref 1), .va (eSky many bells storms), .va (.bl j), .va (.lst [.str sPlain, .str sFree]), .ow (.lst (pages.map ePg)), .va (tI rung), y6, .va (.int x)], rfl, by simp [runF, S.sem, fSeq, fIf, fRet, fRetN, fSkip, fDrop, fAsg, fAsgT, fPar, fPar3, asgRw, fFor, fMut, fPut, fUpd, E.v, E.a, E.i, E.o, E.c, sVar, sCon, sTup, sLst, aNil, aCons, vl, vv, sOp1, sOp2, sB, bE, bNot, bAnd, bOr, sAnd, sOr, sIte, sChn, sSl, oNone, oSome, sCall, sPop, sDnew, sDisp, sLrg, sShr, iOf, iRan1, iRan2, bYes, Cn.d, B1.sem, rr_tup, rr_lst, rr_scr, rr_dct, rr_int, rr_str, rr_bl, rr_non, rr_ref, rr_f, rr_o, Rw.val, binD, cmpR, cmpD, ofB, List.replicate, inD_tI], fun _ => by simp [runF, S.sem, fSeq, fIf, fRet, fRetN, fSkip, fDrop, fAsg, fAsgT, fPar, fPar3, asgRw, fFor, fMut, fPut, fUpd, E.v, E.a, E.i, E.o, E.c, sVar, sCon, sTup, sLst, aNil, aCons, vl, vv, sOp1, sOp2, sB, bE, bNot, bAnd, bOr, sAnd, sOr, sIte, sChn, sSl, oNone, oSome, sCall, sPop, sDnew, sDisp, sLrg, sShr, iOf, iRan1, iRan2, bYes, Cn.d, B1.sem, rr_tup, rr_lst, rr_scr, rr_dct, rr_int, rr_str, rr_bl, rr_non, rr_ref, rr_f, rr_o, Rw.val, binD, cmpR, cmpD, ofB, List.replicate]⟩)
      have rf : Row ((rI many.toNat).filter fun x => !decide (x ∈ rung)) := rr.filter _
      simp [E.v, E.a, E.i, E.o, E.c, Cn.d, B1.sem] at eA
      generalize (rI many.toNat).filter (fun x => !decide (x ∈ rung)) = oth at *
      have hz := eqD_lst0 _ (flats_int 59 oth)
      rw [List.isEmpty_map] at hz
      cases hy : oth.isEmpty with
      | true =>
        rw [hy] at hz
        refine ⟨[.va (.ref 1), .va (eSky many bells storms), .va (.bl j), .va (.lst [.str sPlain, .str sFree]), .ow (.lst (pages.map ePg)), .va (tI rung), .va (.lst (oth.map .int)), .un], ah, ?_, dk, pages, _, _, rfl, h1.trans (List.sublist_append_left ..), h2⟩
        simp [runF, S.sem, fSeq, fIf, fRet, fRetN, fSkip, fDrop, fAsg, fAsgT, fPar, fPar3, asgRw, fFor, fMut, fPut, fUpd, E.v, E.a, E.i, E.o, E.c, sVar, sCon, sTup, sLst, aNil, aCons, vl, vv, sOp1, sOp2, sB, bE, bNot, bAnd, bOr, sAnd, sOr, sIte, sChn, sSl, oNone, oSome, sCall, sPop, sDnew, sDisp, sLrg, sShr, iOf, iRan1, iRan2, bYes, Cn.d, B1.sem, rr_tup, rr_lst, rr_scr, rr_dct, rr_int, rr_str, rr_bl, rr_non, rr_ref, rr_f, rr_o, Rw.val, binD, cmpR, cmpD, ofB, List.replicate, b_law_plan_any, innF]
        rw [eA]
        simp [runF, S.sem, fSeq, fIf, fRet, fRetN, fSkip, fDrop, fAsg, fAsgT, fPar, fPar3, asgRw, fFor, fMut, fPut, fUpd, E.v, E.a, E.i, E.o, E.c, sVar, sCon, sTup, sLst, aNil, aCons, vl, vv, sOp1, sOp2, sB, bE, bNot, bAnd, bOr, sAnd, sOr, sIte, sChn, sSl, oNone, oSome, sCall, sPop, sDnew, sDisp, sLrg, sShr, iOf, iRan1, iRan2, bYes, Cn.d, B1.sem, rr_tup, rr_lst, rr_scr, rr_dct, rr_int, rr_str, rr_bl, rr_non, rr_ref, rr_f, rr_o, Rw.val, binD, cmpR, cmpD, ofB, List.replicate, hz, big]
      | false =>
        rw [hy] at hz
        obtain ⟨r, ah1, e1, dk1, r0, r1⟩ := draw_t (k := k + 4) (n := 4) (by decide) dk
        by_cases hr0 : 0 < r
        · have e0 : ltD (.int 0) (.int r) = some true := by simp [ltD, hr0]
          obtain ⟨kd, ah2, e2, dk2, wk⟩ := kind_t (k := k) rf (by intro z; rw [z] at hy; simp at hy) (j := j) dk1
          have hap : appD (.lst (pages.map ePg)) (ePg (rung, kd)) = some (.lst ((pages ++ [(rung, kd)]).map ePg)) := by
            show (if (pages.map ePg).length < big then some (D.lst (pages.map ePg ++ [ePg (rung, kd)])) else none) = _
            rw [if_pos (by rw [List.length_map]; omega), List.map_append]
            rfl
          refine ⟨[.va (.ref 1), .va (eSky many bells storms), .va (.bl j), .va (.lst [.str sPlain, .str sFree]), .ow (.lst ((pages ++ [(rung, kd)]).map ePg)), .va (tI rung), .va (.lst (oth.map .int)), .un], ah2, ?_, dk2, pages ++ [(rung, kd)], _, _, rfl, by rw [List.map_append]; exact h1.append (List.Sublist.refl _), fun p hp => (List.mem_append.mp hp).elim (h2 p) fun e => by rw [List.mem_singleton.mp e]; exact wk⟩
          simp [runF, S.sem, fSeq, fIf, fRet, fRetN, fSkip, fDrop, fAsg, fAsgT, fPar, fPar3, asgRw, fFor, fMut, fPut, fUpd, E.v, E.a, E.i, E.o, E.c, sVar, sCon, sTup, sLst, aNil, aCons, vl, vv, sOp1, sOp2, sB, bE, bNot, bAnd, bOr, sAnd, sOr, sIte, sChn, sSl, oNone, oSome, sCall, sPop, sDnew, sDisp, sLrg, sShr, iOf, iRan1, iRan2, bYes, Cn.d, B1.sem, rr_tup, rr_lst, rr_scr, rr_dct, rr_int, rr_str, rr_bl, rr_non, rr_ref, rr_f, rr_o, Rw.val, binD, cmpR, cmpD, ofB, List.replicate, b_law_plan_any, innF]
          rw [eA]
          simp [runF, S.sem, fSeq, fIf, fRet, fRetN, fSkip, fDrop, fAsg, fAsgT, fPar, fPar3, asgRw, fFor, fMut, fPut, fUpd, E.v, E.a, E.i, E.o, E.c, sVar, sCon, sTup, sLst, aNil, aCons, vl, vv, sOp1, sOp2, sB, bE, bNot, bAnd, bOr, sAnd, sOr, sIte, sChn, sSl, oNone, oSome, sCall, sPop, sDnew, sDisp, sLrg, sShr, iOf, iRan1, iRan2, bYes, Cn.d, B1.sem, rr_tup, rr_lst, rr_scr, rr_dct, rr_int, rr_str, rr_bl, rr_non, rr_ref, rr_f, rr_o, Rw.val, binD, cmpR, cmpD, ofB, List.replicate, hz, e1, e0, e2, big, locOf, at', isL, upE, upA]
          simp only [List.map_append] at hap
          rw [hap]
          simp
        · have e0 : ltD (.int 0) (.int r) = some false := by simp [ltD, hr0]
          refine ⟨[.va (.ref 1), .va (eSky many bells storms), .va (.bl j), .va (.lst [.str sPlain, .str sFree]), .ow (.lst (pages.map ePg)), .va (tI rung), .va (.lst (oth.map .int)), .un], ah1, ?_, dk1, pages, _, _, rfl, h1.trans (List.sublist_append_left ..), h2⟩
          simp [runF, S.sem, fSeq, fIf, fRet, fRetN, fSkip, fDrop, fAsg, fAsgT, fPar, fPar3, asgRw, fFor, fMut, fPut, fUpd, E.v, E.a, E.i, E.o, E.c, sVar, sCon, sTup, sLst, aNil, aCons, vl, vv, sOp1, sOp2, sB, bE, bNot, bAnd, bOr, sAnd, sOr, sIte, sChn, sSl, oNone, oSome, sCall, sPop, sDnew, sDisp, sLrg, sShr, iOf, iRan1, iRan2, bYes, Cn.d, B1.sem, rr_tup, rr_lst, rr_scr, rr_dct, rr_int, rr_str, rr_bl, rr_non, rr_ref, rr_f, rr_o, Rw.val, binD, cmpR, cmpD, ofB, List.replicate, b_law_plan_any, innF]
          rw [eA]
          simp [runF, S.sem, fSeq, fIf, fRet, fRetN, fSkip, fDrop, fAsg, fAsgT, fPar, fPar3, asgRw, fFor, fMut, fPut, fUpd, E.v, E.a, E.i, E.o, E.c, sVar, sCon, sTup, sLst, aNil, aCons, vl, vv, sOp1, sOp2, sB, bE, bNot, bAnd, bOr, sAnd, sOr, sIte, sChn, sSl, oNone, oSome, sCall, sPop, sDnew, sDisp, sLrg, sShr, iOf, iRan1, iRan2, bYes, Cn.d, B1.sem, rr_tup, rr_lst, rr_scr, rr_dct, rr_int, rr_str, rr_bl, rr_non, rr_ref, rr_f, rr_o, Rw.val, binD, cmpR, cmpD, ofB, List.replicate, hz, e1, e0, big])
  exact ⟨pages, ah', y5, y6, e, dk', h1, h2⟩
theorem plan_t {many : Int} {bells : List Int} {storms : List St2} {j : Bool} (hm : 0 ≤ many ∧ many ≤ 6) (hb : Row bells) (dk : DkK ah) : ∃ (pages : List Pg) (ah' : AH),
    callN T (k + 6) 19 [.ref 1, eSky many bells storms, .bl j, .lst [.str sPlain, .str sFree]] ah = some (.v (ePl j pages), ah') ∧ DkK ah' ∧ WP pages ∧ ∀ p ∈ pages, p.1.Sublist bells := by
  rw [callN_at (fd := ⟨4, 8, b_law_plan_any⟩) rfl rfl]
  obtain ⟨F, e1, f1, f2, f3⟩ := subsets_t (k := k + 4) (ah := ah) (b := true) hb
  have e1 : callN T (k + 5) 13 [tI bells] ah = some (.v (.lst (F.map tI)), ah) := e1
  obtain ⟨R, e2, p⟩ := sort_tI F
  have hR : ∀ a ∈ R.take 8, a.Sublist bells := fun a ha => f2 a (p.mem_iff.mp (List.mem_of_mem_take ha))
  have hl : (R.take 8).length ≤ 8 := by rw [List.length_take]; omega
  obtain ⟨pages, ah', y5, y6, e3, dk', h1, h2⟩ := plan_go (k := k) (ah := ah) (many := many) (bells := bells) (storms := storms) (j := j) hm (rows := R.take 8) (fun a ha => (hR a ha).trans hb) hl dk
  have hsub : ∀ q ∈ pages, q.1 ∈ R.take 8 := fun q hq => h1.subset (List.mem_map.mpr ⟨q, hq, rfl⟩)
  have hlen : pages.length ≤ 8 := by have := h1.length_le; rw [List.length_map] at this; omega
  refine ⟨pages, ah', ?_, dk', ⟨hlen, fun q hq => (hR _ (hsub q hq)).trans hb, h2, h1.nodup ((List.take_sublist ..).nodup (p.nodup_iff.mpr f1))⟩, fun q hq => hR _ (hsub q hq)⟩
  have hc : slD (.lst (R.map tI)) none (some 8) = some (.f (.lst ((R.take 8).map tI))) := by
    rw [slD, show (8 : Int) = ((8 : Nat) : Int) from rfl, cut_len, List.map_take]
  simp [runF, S.sem, fSeq, fIf, fRet, fRetN, fSkip, fDrop, fAsg, fAsgT, fPar, fPar3, asgRw, fFor, fMut, fPut, fUpd, E.v, E.a, E.i, E.o, E.c, sVar, sCon, sTup, sLst, aNil, aCons, vl, vv, sOp1, sOp2, sB, bE, bNot, bAnd, bOr, sAnd, sOr, sIte, sChn, sSl, oNone, oSome, sCall, sPop, sDnew, sDisp, sLrg, sShr, iOf, iRan1, iRan2, bYes, Cn.d, B1.sem, rr_tup, rr_lst, rr_scr, rr_dct, rr_int, rr_str, rr_bl, rr_non, rr_ref, rr_f, rr_o, Rw.val, binD, cmpR, cmpD, ofB, List.replicate, b_law_plan_any, innF] at e3
  simp [runF, S.sem, fSeq, fIf, fRet, fRetN, fSkip, fDrop, fAsg, fAsgT, fPar, fPar3, asgRw, fFor, fMut, fPut, fUpd, E.v, E.a, E.i, E.o, E.c, sVar, sCon, sTup, sLst, aNil, aCons, vl, vv, sOp1, sOp2, sB, bE, bNot, bAnd, bOr, sAnd, sOr, sIte, sChn, sSl, oNone, oSome, sCall, sPop, sDnew, sDisp, sLrg, sShr, iOf, iRan1, iRan2, bYes, Cn.d, B1.sem, rr_tup, rr_lst, rr_scr, rr_dct, rr_int, rr_str, rr_bl, rr_non, rr_ref, rr_f, rr_o, Rw.val, binD, cmpR, cmpD, ofB, List.replicate, b_law_plan_any, atI1, ixD, e1, e2, hc]
  rw [e3]
  simp [runF, S.sem, fSeq, fIf, fRet, fRetN, fSkip, fDrop, fAsg, fAsgT, fPar, fPar3, asgRw, fFor, fMut, fPut, fUpd, E.v, E.a, E.i, E.o, E.c, sVar, sCon, sTup, sLst, aNil, aCons, vl, vv, sOp1, sOp2, sB, bE, bNot, bAnd, bOr, sAnd, sOr, sIte, sChn, sSl, oNone, oSome, sCall, sPop, sDnew, sDisp, sLrg, sShr, iOf, iRan1, iRan2, bYes, Cn.d, B1.sem, rr_tup, rr_lst, rr_scr, rr_dct, rr_int, rr_str, rr_bl, rr_non, rr_ref, rr_f, rr_o, Rw.val, binD, cmpR, cmpD, ofB, List.replicate, tupD, big]
end
end U.k83
namespace U.k83
open PySem PySem.Spec PyProof.Rows L2 U
section
variable {k : Nat} {ah : AH} {many : Int} {bells : List Int} {storms : List St2} {j : Bool} {pages : List Pg}
def Hm (storms : List St2) (pages : List Pg) (m : Str) (p : Pg) (sm : List Int) : Bool :=
  if m = mSure then pages.any (badP storms p.1 sm) else if m = mKept then !p.2.keeps.any fun l => sub l sm else decide (m = mAlw)
theorem find_nd : ∀ {pages : List Pg}, (pages.map (·.1)).Nodup → ∀ p ∈ pages, pages.find? (fun q => decide (q.1 = p.1)) = some p ∧ pages.findSome? (fun q => if q.1 = p.1 then some (Rw.v (eK q.2)) else none) = some (.v (eK p.2))
  | [], _, p, hp => by simp at hp
  | q :: qs, h, p, hp => by
    rw [List.map_cons, List.nodup_cons] at h
    by_cases e : q.1 = p.1
    · rcases List.mem_cons.mp hp with rfl | hp
      · simp
      · exact absurd (List.mem_map.mpr ⟨p, hp, e.symm⟩) h.1
    · rcases List.mem_cons.mp hp with rfl | hp
      · exact absurd rfl e
      · have ih := find_nd h.2 p hp
        rw [List.find?_cons, List.findSome?_cons]
        simp only [e, decide_false, if_false]
        exact ih
theorem wo_bad {sm a bl : List Int} : (decide ((sm.filter fun x => decide (x ∈ wo a bl)) = [])) = bad1 sm a bl := by
  have e : (sm.filter fun x => decide (x ∈ wo a bl)) = sm.filter fun x => decide (x ∈ a) && !decide (x ∈ bl) := by
    congr 1
    funext x
    simp [wo, List.mem_filter]
  unfold bad1
  rw [e]
  cases sm.filter fun x => decide (x ∈ a) && !decide (x ∈ bl) <;> simp
theorem sure_eq {rung sm : List Int} {L : List (List Int)} (h : ∀ x, x ∈ L ↔ ∃ p ∈ pages, sub rung p.1 = true ∧ ∃ s ∈ storms, sub p.1 s.1 = true ∧ ∃ a ∈ p.2.asks, x = wo a s.2) :
    (L.any fun own => decide ((sm.filter fun x => decide (x ∈ own)) = [])) = pages.any (badP storms rung sm) := by
  rw [Bool.eq_iff_iff, List.any_eq_true, List.any_eq_true]
  constructor
  · rintro ⟨own, ho, hb⟩
    obtain ⟨p, hp, h1, s, hs, h2, a, ha, rfl⟩ := (h own).mp ho
    rw [wo_bad] at hb
    refine ⟨p, hp, ?_⟩
    unfold badP
    rw [List.any_eq_true]
    refine ⟨a, List.mem_filter.mpr ⟨ha, h1⟩, ?_⟩
    rw [List.any_eq_true]
    exact ⟨s, List.mem_filter.mpr ⟨hs, h2⟩, hb⟩
  · rintro ⟨p, hp, hb⟩
    unfold badP at hb
    rw [List.any_eq_true] at hb
    obtain ⟨a, ha, hb⟩ := hb
    rw [List.any_eq_true] at hb
    obtain ⟨s, hs, hb⟩ := hb
    obtain ⟨ha, h1⟩ := List.mem_filter.mp ha
    obtain ⟨hs, h2⟩ := List.mem_filter.mp hs
    exact ⟨wo a s.2, (h _).mpr ⟨p, hp, h1, s, hs, h2, a, ha, rfl⟩, by rw [wo_bad]; exact hb⟩
theorem once_t {m : Str} (hm : m = mSure ∨ m = mKept ∨ m = mAlw ∨ m = mNev) (hp : WP pages) (hs : WS storms) : callN T (k + 4) 6 [eSky many bells storms, ePl j pages, .str m] ah = some (.v (eHo (hits (Hm storms pages m) pages)), ah) := by
  have hb : big = 1000000 := rfl
  by_cases h : m = mSure
  · subst h
    obtain ⟨lat, hl⟩ := Classical.axiomOfChoice (r := fun (p : Pg) (L : List (List Int)) => p ∈ pages → callN T (k + 3) 4 [eSky many bells storms, ePl j pages, tI p.1] ah = some (.f (.lst (L.map tI)), ah) ∧ L.length ≤ 1000 ∧ ∀ x, x ∈ L ↔ ∃ q ∈ pages, sub p.1 q.1 = true ∧ ∃ s ∈ storms, sub q.1 s.1 = true ∧ ∃ a ∈ q.2.asks, x = wo a s.2) fun p => by
      by_cases h : p ∈ pages
      · obtain ⟨L, h1, h2, _, h3⟩ := left_later_t (k := k + 1) (many := many) (bells := bells) (b := j) (ah := ah) hs hp (hp.rung p h)
        exact ⟨L, fun _ => ⟨h1, h2, h3⟩⟩
      · exact ⟨[], fun z => absurd z h⟩
    refine at_once_t (k := k) (Hm storms pages mSure) hp lat (fun p hpp => ?_) fun p hpp sm rs => ?_
    · rw [if_pos rfl]
      exact (hl p hpp).1
    · obtain ⟨_, h2, h3⟩ := hl p hpp
      rw [toB_sure (k := k + 1) rs.len (by omega), sure_eq (sm := sm) h3]
      rfl
  · refine at_once_t (k := k) (Hm storms pages m) hp (fun _ => []) (fun p hpp => ?_) fun p hpp sm rs => ?_
    · rw [if_neg h]
    · rcases hm with h' | h' | h' | h'
      · exact absurd h' h
      · subst h'
        rw [toB_kept (k := k + 1) (find_nd hp.nd p hpp).2 (hp.kd p hpp)]
        rfl
      · subst h'
        rw [toB_oth (k := k + 1) (.inl rfl)]
        rfl
      · subst h'
        rw [toB_oth (k := k + 1) (.inr rfl)]
        rfl
theorem dues_t {m : Str} (hm : m = mSure ∨ m = mKept ∨ m = mAlw ∨ m = mNev) (hp : WP pages) (hs : WS storms) : callN T (k + 4) 22 [eW many bells storms j pages m] ah = some (.v (eHo (hits (Hm storms pages m) pages)), ah) := by
  refine due_t (k := k) (Hm storms pages m) hp fun p hpp sm rs => ?_
  rcases hm with h' | h' | h' | h'
  · subst h'
    rw [ends_sure (k := k) hp hs (hp.rung p hpp) rs.len]
    rfl
  · subst h'
    rw [ends_kept (k := k) (rung := p.1) (kd := p.2) hp (find_nd hp.nd p hpp).1 (hp.kd p hpp)]
    simp [Hm, show ¬ mKept = mSure from by decide]
  · subst h'
    rw [ends_oth (k := k) (.inl rfl) hp]
    rfl
  · subst h'
    rw [ends_oth (k := k) (.inr rfl) hp]
    rfl
/- no keep lot is there, yet the look could be unsure: then the plan is torn -/
theorem sub_of {a b : List Int} : sub a b = true ↔ ∀ x ∈ a, x ∈ b := by simp [sub]
theorem fs_none {α β : Type} {f : α → Option β} {xs : List α} (h : xs.findSome? f = none) : ∀ x ∈ xs, f x = none := by simpa using h
theorem fs_some {α β : Type} {f : α → Option β} {xs : List α} {r : β} (h : xs.findSome? f = some r) : ∃ x ∈ xs, f x = some r := List.exists_of_findSome?_eq_some h
theorem torn_of (hb : ∀ p ∈ pages, p.1.Sublist bells) (h1 : hits (Hm storms pages mKept) pages = none) {r : List Int × List Int × List Int} (h2 : hits (Hm storms pages mSure) pages = some r) : torn bells storms pages = true := by
  unfold hits at h1 h2
  obtain ⟨p, hp, h2⟩ := fs_some h2
  obtain ⟨kp, hk, h2⟩ := fs_some h2
  obtain ⟨a, ha, h2⟩ := fs_some h2
  have h1 := fs_none (fs_none (fs_none h1 p hp) kp hk) a ha
  unfold hit at h1 h2
  have c2 : (!(kp.filter fun x => decide (x ∈ a)).isEmpty && Hm storms pages mSure p (kp.filter fun x => decide (x ∈ a))) = true := by
    by_cases c : (!(kp.filter fun x => decide (x ∈ a)).isEmpty && Hm storms pages mSure p (kp.filter fun x => decide (x ∈ a))) = true
    · exact c
    · rw [if_neg c] at h2
      cases h2
  have c1 : ¬ (!(kp.filter fun x => decide (x ∈ a)).isEmpty && Hm storms pages mKept p (kp.filter fun x => decide (x ∈ a))) = true := by
    intro c
    rw [if_pos c] at h1
    cases h1
  rw [Bool.and_eq_true] at c2
  rw [c2.1, Bool.true_and] at c1
  obtain ⟨_, c2⟩ := c2
  generalize kp.filter (fun x => decide (x ∈ a)) = sm at *
  have c1 : (p.2.keeps.any fun l => sub l sm) = true := by
    simp only [Hm, show ¬ mKept = mSure from by decide, if_false, if_true] at c1
    simpa using c1
  have c2 : pages.any (badP storms p.1 sm) = true := c2
  obtain ⟨kp', hk', c1⟩ := List.any_eq_true.mp c1
  obtain ⟨p', hp', c2⟩ := List.any_eq_true.mp c2
  unfold badP at c2
  obtain ⟨lot, hlot, c2⟩ := List.any_eq_true.mp c2
  obtain ⟨s, hs, c2⟩ := List.any_eq_true.mp c2
  obtain ⟨hlot, s1⟩ := List.mem_filter.mp hlot
  obtain ⟨hs, s2⟩ := List.mem_filter.mp hs
  have top' : ∀ x ∈ p'.1, x ∈ topOf bells s := fun x hx => List.mem_filter.mpr ⟨sub_of.mp s2 x hx, by simpa using (hb p' hp').subset hx⟩
  have q1 : sub p'.1 (topOf bells s) = true := sub_of.mpr top'
  have q2 : sub p.1 (topOf bells s) = true := sub_of.mpr fun x hx => top' x (sub_of.mp s1 x hx)
  unfold torn
  refine List.any_eq_true.mpr ⟨s, hs, List.any_eq_true.mpr ⟨p, hp, ?_⟩⟩
  unfold tornP
  refine List.any_eq_true.mpr ⟨kp', List.mem_filter.mpr ⟨hk', q2⟩, ?_⟩
  unfold tornK
  refine List.any_eq_true.mpr ⟨lot, List.mem_flatMap.mpr ⟨p', hp', ?_⟩, sub_of.mpr fun x hx => ?_⟩
  · rw [if_pos (by rw [s1, q1]; rfl)]
    exact hlot
  · obtain ⟨x1, x2⟩ := List.mem_filter.mp hx
    have x3 := sub_of.mp c1 x x1
    unfold bad1 at c2
    have : ∀ y ∈ sm, y ∈ lot → y ∈ s.2 := by simpa using c2
    exact this x x3 (by simpa using x2)
/- repr shows all -/
theorem Row.small {x : List Int} (h : Row x) : ∀ y ∈ x, -1000000 ≤ y ∧ y ≤ 1000000 := fun y hy => by
  have := h.subset hy
  simp at this
  omega
theorem Row.nice {dep : Nat} {x : List Int} (h : Row x) : Nice (dep + 1) 6 (tI x) := nice_tI h.small h.length_le
theorem nice_eP {dep : Nat} {x : List Int × List Int} (h : Row x.1 ∧ Row x.2) : Nice (dep + 2) 14 (eP x) := by
  refine nice_tup (n := 6) (m := 2) (fun d hd => ?_) (by simp)
  simp at hd
  rcases hd with rfl | rfl
  · exact h.1.nice
  · exact h.2.nice
theorem nice_eH {r : List Int × List Int × List Int} (h : Row r.1 ∧ Row r.2.1 ∧ Row r.2.2) : Nice 30 21 (eH r) := by
  refine nice_tup (dep := 29) (n := 6) (m := 3) (fun d hd => ?_) (by simp)
  simp at hd
  rcases hd with rfl | rfl | rfl
  · exact h.1.nice (dep := 28)
  · exact h.2.1.nice (dep := 28)
  · exact h.2.2.nice (dep := 28)
theorem nice_eK {dep : Nat} {kd : Kd} (h : WK kd) : Nice (dep + 4) 355 (eK kd) := by
  refine nice_tup (dep := dep + 3) (n := 70) (m := 5) (fun d hd => ?_) (by simp)
  simp at hd
  rcases hd with rfl | rfl | rfl | rfl | rfl
  · exact nice_str h.sort.1 (Nat.le_trans h.sort.2 (by decide))
  · exact (h.hands.nice (dep := dep + 2)).up (by decide)
  · exact (nice_tups (dep := dep + 2) (n := 6) (m := 10) (fun x hx => (h.asks x hx).nice (dep := dep + 1)) h.la).up (by decide)
  · exact (nice_tups (dep := dep + 2) (n := 6) (m := 10) (fun x hx => (h.keeps x hx).nice (dep := dep + 1)) h.lk).up (by decide)
  · exact (nice_tups (dep := dep + 2) (n := 14) (m := 3) (fun x hx => nice_eP (dep := dep) (h.joins x hx)) h.lj).up (by decide)
theorem nice_ePg {dep : Nat} {p : Pg} (h : Row p.1 ∧ WK p.2) : Nice (dep + 5) 712 (ePg p) := by
  refine nice_tup (dep := dep + 4) (n := 355) (m := 2) (fun d hd => ?_) (by simp)
  simp at hd
  rcases hd with rfl | rfl
  · exact (h.1.nice (dep := dep + 3)).up (by decide)
  · exact nice_eK h.2
theorem nice_ePl {dep : Nat} (hp : WP pages) : Nice (dep + 7) 11410 (ePl j pages) := by
  refine nice_tup (dep := dep + 6) (n := 5704) (m := 2) (fun d hd => ?_) (by simp)
  simp at hd
  rcases hd with rfl | rfl
  · exact nice_bl
  · exact nice_tups (dep := dep + 5) (n := 712) (m := 8) (fun p h => nice_ePg (dep := dep) ⟨hp.rung p h, hp.kd p h⟩) hp.len
theorem nice_eSky {dep : Nat} (hm : 0 ≤ many ∧ many ≤ 6) (hb : Row bells) (hs : WS storms) : Nice (dep + 4) 200 (eSky many bells storms) := by
  refine (nice_tup (dep := dep + 3) (n := 60) (m := 3) (fun d hd => ?_) (by simp)).up (by decide)
  simp at hd
  rcases hd with rfl | rfl | rfl
  · exact nice_int (by omega)
  · exact (hb.nice (dep := dep + 2)).up (by decide)
  · exact (nice_tups (dep := dep + 2) (n := 14) (m := 4) (fun x hx => nice_eP (dep := dep) (hs.rows x hx)) hs.len).up (by decide)
theorem repr_world (hm : 0 ≤ many ∧ many ≤ 6) (hb : Row bells) (hs : WS storms) (hp : WP pages) : ∃ s, reprD (.lst [eSky many bells storms, ePl j pages]) = some (.v (.str s)) := by
  refine repr_nice (n := 22822) (nice_lst (dep := 29) (n := 11410) (m := 2) (fun d hd => ?_) (by simp)) (by decide)
  simp at hd
  rcases hd with rfl | rfl
  · exact (nice_eSky (dep := 25) hm hb hs).up (by decide)
  · exact nice_ePl (dep := 22) hp
theorem hits_row (H : Pg → List Int → Bool) (hp : WP pages) {r : List Int × List Int × List Int} (h : hits H pages = some r) : Row r.1 ∧ Row r.2.1 ∧ Row r.2.2 := by
  unfold hits at h
  obtain ⟨p, hpp, h⟩ := fs_some h
  obtain ⟨kp, hk, h⟩ := fs_some h
  obtain ⟨a, ha, h⟩ := fs_some h
  unfold hit at h
  split at h
  · cases h
    exact ⟨hp.rung p hpp, (hp.kd p hpp).keeps kp hk, (hp.kd p hpp).asks a ha⟩
  · cases h
theorem repr_hit (H : Pg → List Int → Bool) (hp : WP pages) : ∃ s, reprD (eHo (hits H pages)) = some (.v (.str s)) := by
  cases h : hits H pages with
  | none => exact repr_nice (n := 0) nice_non (by decide)
  | some r => exact repr_nice (nice_eH (hits_row H hp h)) (by decide)
end
end U.k83
namespace U.k83
open PySem PySem.Spec PyProof.Rows L2 U
section
variable {ah : AH} {many : Int} {bells : List Int} {storms : List St2} {j : Bool} {pages : List Pg} {ns : List Int}
abbrev lEv (ns : List Int) (r : List Sl) : Ev := [.va (.scr (ns.map .int)), .va (.ref 1)] ++ r
abbrev RR (storms : List St2) (pages : List Pg) (m : Str) : D := eHo (hits (Hm storms pages m) pages)
abbrev innM : S → S
  | .seq _ (.seq _ (.seq _ (.seq _ (.seq (.for _ _ b) _)))) => b
  | _ => .skip
theorem rd_eHo {env : Ev} {ah : AH} (o : Option (List Int × List Int × List Int)) : Rw.rd env ah (.v (eHo o)) = some (eHo o) := by cases o <;> rfl
theorem man_step {m : Str} (hm : m = mSure ∨ m = mKept ∨ m = mAlw ∨ m = mNev) (hp : WP pages) (hs : WS storms) {t : D} {s0 : D} {kvs kvs' : List (D × D)} (hput : putAt (.dct kvs) (.str m) (RR storms pages m) = some (.dct kvs')) (hget : ixD (.dct kvs') (.str m) = some (.v (RR storms pages m))) :
    (innM (innF b_law)).sem (callN T 11) (lEv ns [.va t, .va (eSky many bells storms), .va (.bl j), .va (ePl j pages), .va s0, .ow (.dct kvs), .va (.str m)]) ah = some (.nx (lEv ns [.va t, .va (eSky many bells storms), .va (.bl j), .va (ePl j pages), .va s0, .ow (.dct kvs'), .va (.str m)]) ah) := by
  have e1 : callN T 11 6 [eSky many bells storms, ePl j pages, .str m] ah = some (.v (RR storms pages m), ah) := once_t (k := 7) hm hp hs
  have e2 : callN T 11 22 [.tup [eSky many bells storms, ePl j pages, .str m, .int 0]] ah = some (.v (RR storms pages m), ah) := dues_t (k := 7) hm hp hs
  obtain ⟨s, hr⟩ := repr_hit (Hm storms pages m) hp
  have hr : reprD (RR storms pages m) = some (.v (.str s)) := hr
  have hrd : ∀ (env : Ev) (ah : AH), Rw.rd env ah (.v (RR storms pages m)) = some (RR storms pages m) := fun env ah => rd_eHo _
  have hq := eqD_str s s
  rw [decide_eq_true rfl] at hq
  generalize RR storms pages m = R at *
  simp [runF, S.sem, fSeq, fIf, fRet, fRetN, fSkip, fDrop, fAsg, fAsgT, fPar, fPar3, asgRw, fFor, fMut, fPut, fUpd, E.v, E.a, E.i, E.o, E.c, sVar, sCon, sTup, sLst, aNil, aCons, vl, vv, sOp1, sOp2, sB, bE, bNot, bAnd, bOr, sAnd, sOr, sIte, sChn, sSl, oNone, oSome, sCall, sPop, sDnew, sDisp, sLrg, sShr, iOf, iRan1, iRan2, bYes, Cn.d, B1.sem, rr_tup, rr_lst, rr_scr, rr_dct, rr_int, rr_str, rr_bl, rr_non, rr_ref, rr_f, rr_o, Rw.val, binD, cmpR, cmpD, ofB, List.replicate, b_law, innM, innF, lEv, e1, e2, hput, hget, locOf, at', upE, upA, hr, hrd, hq, big]
theorem it_mans : E.i (callN T 11) (E.it (E.bin (Operator.Add) (E.lst (E.cons (E.cn (Cn.str mAlw)) (E.cons (E.cn (Cn.str mKept)) (E.nil)))) (E.bin (Operator.Mult) (E.lst (E.cons (E.cn (Cn.str mSure)) (E.cons (E.cn (Cn.str mNev)) (E.nil)))) (E.b1 (B1.int) (E.not (E.var 4)))))) (lEv ns (.un :: .un :: .va (.bl j) :: [])) ah = some ((if j then [.str mAlw, .str mKept] else [.str mAlw, .str mKept, .str mSure, .str mNev], none), ah) := by
  cases j <;> simp [runF, S.sem, fSeq, fIf, fRet, fRetN, fSkip, fDrop, fAsg, fAsgT, fPar, fPar3, asgRw, fFor, fMut, fPut, fUpd, E.v, E.a, E.i, E.o, E.c, sVar, sCon, sTup, sLst, aNil, aCons, vl, vv, sOp1, sOp2, sB, bE, bNot, bAnd, bOr, sAnd, sOr, sIte, sChn, sSl, oNone, oSome, sCall, sPop, sDnew, sDisp, sLrg, sShr, iOf, iRan1, iRan2, bYes, Cn.d, B1.sem, rr_tup, rr_lst, rr_scr, rr_dct, rr_int, rr_str, rr_bl, rr_non, rr_ref, rr_f, rr_o, Rw.val, binD, cmpR, cmpD, ofB, List.replicate, lEv, addD, mulD, intD, big]
theorem fl_two {t : Tg} {f : FS} {a b : D} {env env1 env2 env3 env4 : Ev} (h1 : bindT t a env = some env1) (h2 : f env1 ah = some (.nx env2 ah)) (h3 : bindT t b env2 = some env3) (h4 : f env3 ah = some (.nx env4 ah)) (r : List D) : forGo t f (a :: b :: r) env ah = forGo t f r env4 ah := by
  simp only [forGo, h1, h2, h3, h4, Option.bind_some]
abbrev tdA (storms : List St2) (pages : List Pg) : List (D × D) := [(.str mAlw, RR storms pages mAlw)]
abbrev tdB (storms : List St2) (pages : List Pg) : List (D × D) := [(.str mAlw, RR storms pages mAlw), (.str mKept, RR storms pages mKept)]
abbrev tdC (storms : List St2) (pages : List Pg) : List (D × D) := [(.str mAlw, RR storms pages mAlw), (.str mKept, RR storms pages mKept), (.str mSure, RR storms pages mSure)]
abbrev tdD (storms : List St2) (pages : List Pg) : List (D × D) := [(.str mAlw, RR storms pages mAlw), (.str mKept, RR storms pages mKept), (.str mSure, RR storms pages mSure), (.str mNev, RR storms pages mNev)]
theorem man_all (hp : WP pages) (hs : WS storms) {t s0 : D} {x8 : Sl} : ∃ y8, forGo (.nm 8) ((innM (innF b_law)).sem (callN T 11)) (if j then [.str mAlw, .str mKept] else [.str mAlw, .str mKept, .str mSure, .str mNev]) (lEv ns [.va t, .va (eSky many bells storms), .va (.bl j), .va (ePl j pages), .va s0, .ow (.dct []), x8]) ah
    = some (.nx (lEv ns [.va t, .va (eSky many bells storms), .va (.bl j), .va (ePl j pages), .va s0, .ow (.dct (if j then tdB storms pages else tdD storms pages)), y8]) ah) := by
  have s1 := man_step (ns := ns) (ah := ah) (many := many) (bells := bells) (j := j) (m := mAlw) (.inr (.inr (.inl rfl))) hp hs (t := t) (s0 := s0) (kvs := []) (kvs' := tdA storms pages) (by simp [putAt, dput, putD, kk_str, sameKind, KK.isK, big]) (by simp [ixD, dfind, kk_str, sameKind, KK.isK])
  have s2 := man_step (ns := ns) (ah := ah) (many := many) (bells := bells) (j := j) (m := mKept) (.inr (.inl rfl)) hp hs (t := t) (s0 := s0) (kvs := tdA storms pages) (kvs' := tdB storms pages) (by simp [putAt, dput, putD, kk_str, sameKind, KK.isK, big]) (by simp [ixD, dfind, kk_str, sameKind, KK.isK])
  have s3 := man_step (ns := ns) (ah := ah) (many := many) (bells := bells) (j := j) (m := mSure) (.inl rfl) hp hs (t := t) (s0 := s0) (kvs := tdB storms pages) (kvs' := tdC storms pages) (by simp [putAt, dput, putD, kk_str, sameKind, KK.isK, big]) (by simp [ixD, dfind, kk_str, sameKind, KK.isK])
  have s4 := man_step (ns := ns) (ah := ah) (many := many) (bells := bells) (j := j) (m := mNev) (.inr (.inr (.inr rfl))) hp hs (t := t) (s0 := s0) (kvs := tdC storms pages) (kvs' := tdD storms pages) (by simp [putAt, dput, putD, kk_str, sameKind, KK.isK, big]) (by simp [ixD, dfind, kk_str, sameKind, KK.isK])
  cases j with
  | true => exact ⟨_, fl_two rfl s1 rfl s2 []⟩
  | false => exact ⟨_, (fl_two rfl s1 rfl s2 _).trans (fl_two rfl s3 rfl s4 [])⟩
end
end U.k83
namespace U.k83
open PySem PySem.Spec PyProof.Rows L2 U
section
variable {ah : AH} {ns : List Int}
abbrev bb : S := innF b_law
theorem ix_kept {a b c d : D} {r : List (D × D)} (hr : (∀ p ∈ r, ∃ s, p.1 = .str s)) : ixD (.dct ((.str mAlw, a) :: (.str mKept, b) :: r)) (.str mKept) = some (.v b) := by
  have : sameKind ((.str mAlw, a) :: (.str mKept, b) :: r) (.k (.inr mKept)) = true := by
    unfold sameKind
    rw [List.all_eq_true]
    intro p hp
    have : ∃ s, p.1 = .str s := by
      rcases List.mem_cons.mp hp with rfl | hp
      · exact ⟨_, rfl⟩
      · rcases List.mem_cons.mp hp with rfl | hp
        · exact ⟨_, rfl⟩
        · exact hr p hp
    obtain ⟨s, e⟩ := this
    rw [e]
    rfl
  simp [ixD, dfind, kk_str, this]
theorem turn_t {tn : Int} {y3 y4 y5 y6 y7 y8 : Sl} (dk : DkK ah) : ∃ (ah' : AH) (z3 z4 z5 z6 z7 z8 : Sl), bb.sem (callN T 11) (lEv ns [.va (.int tn), y3, y4, y5, y6, y7, y8]) ah = some (.nx (lEv ns [.va (.int tn), z3, z4, z5, z6, z7, z8]) ah') ∧ DkK ah' := by
  obtain ⟨many, bells, storms, ah1, e1, dk1, m0, m6, rb, ws⟩ := sky_t (k := 8) (ah := ah) (most := if tn = 0 then 5 else 4) (by by_cases h : tn = 0 <;> simp [h]) dk
  obtain ⟨r, ah2, e2, dk2, _, _⟩ := draw_t (k := 10) (n := 3) (by decide) dk1
  obtain ⟨pages, ah3, e3, dk3, wp, hb⟩ := plan_t (k := 5) (many := many) (storms := storms) (j := decide (r = 0)) ⟨m0, m6⟩ rb dk2
  have e1 : callN T 11 11 [.ref 1, .int (if tn = 0 then 5 else 4)] ah = some (.v (eSky many bells storms), ah1) := e1
  have e2 : callN T 11 8 [.ref 1, .int 3] ah1 = some (.v (.int r), ah2) := e2
  have e3 : callN T 11 19 [.ref 1, eSky many bells storms, .bl (decide (r = 0)), .lst [.str sPlain, .str sFree]] ah2 = some (.v (ePl (decide (r = 0)) pages), ah3) := e3
  obtain ⟨s0, hr⟩ := repr_world (j := decide (r = 0)) ⟨m0, m6⟩ rb ws wp
  have hz := eqD_int r 0
  have ht := eqD_int tn 0
  have hs0 := eqD_str s0 s0
  rw [decide_eq_true rfl] at hs0
  generalize decide (r = 0) = j at *
  obtain ⟨z8, e4⟩ := man_all (ns := ns) (ah := ah3) (many := many) (bells := bells) (j := j) wp ws (t := .int tn) (s0 := .str s0) (x8 := y8)
  have p1 : (hd bb).sem (callN T 11) (lEv ns [.va (.int tn), y3, y4, y5, y6, y7, y8]) ah = some (.nx (lEv ns [.va (.int tn), .va (eSky many bells storms), .va (.bl j), y5, y6, y7, y8]) ah2) := by
    by_cases h : tn = 0
    · rw [decide_eq_true h] at ht
      rw [if_pos h] at e1
      simp [runF, S.sem, fSeq, fIf, fRet, fRetN, fSkip, fDrop, fAsg, fAsgT, fPar, fPar3, asgRw, fFor, fMut, fPut, fUpd, E.v, E.a, E.i, E.o, E.c, sVar, sCon, sTup, sLst, aNil, aCons, vl, vv, sOp1, sOp2, sB, bE, bNot, bAnd, bOr, sAnd, sOr, sIte, sChn, sSl, oNone, oSome, sCall, sPop, sDnew, sDisp, sLrg, sShr, iOf, iRan1, iRan2, bYes, Cn.d, B1.sem, rr_tup, rr_lst, rr_scr, rr_dct, rr_int, rr_str, rr_bl, rr_non, rr_ref, rr_f, rr_o, Rw.val, binD, cmpR, cmpD, ofB, List.replicate, bb, b_law, innF, lEv, e1, e2, hz, ht]
    · rw [decide_eq_false h] at ht
      rw [if_neg h] at e1
      simp [runF, S.sem, fSeq, fIf, fRet, fRetN, fSkip, fDrop, fAsg, fAsgT, fPar, fPar3, asgRw, fFor, fMut, fPut, fUpd, E.v, E.a, E.i, E.o, E.c, sVar, sCon, sTup, sLst, aNil, aCons, vl, vv, sOp1, sOp2, sB, bE, bNot, bAnd, bOr, sAnd, sOr, sIte, sChn, sSl, oNone, oSome, sCall, sPop, sDnew, sDisp, sLrg, sShr, iOf, iRan1, iRan2, bYes, Cn.d, B1.sem, rr_tup, rr_lst, rr_scr, rr_dct, rr_int, rr_str, rr_bl, rr_non, rr_ref, rr_f, rr_o, Rw.val, binD, cmpR, cmpD, ofB, List.replicate, bb, b_law, innF, lEv, e1, e2, hz, ht]
  have p2 : (hd (tl bb)).sem (callN T 11) (lEv ns [.va (.int tn), .va (eSky many bells storms), .va (.bl j), y5, y6, y7, y8]) ah2 = some (.nx (lEv ns [.va (.int tn), .va (eSky many bells storms), .va (.bl j), .va (ePl j pages), y6, y7, y8]) ah3) := by
    simp [runF, S.sem, fSeq, fIf, fRet, fRetN, fSkip, fDrop, fAsg, fAsgT, fPar, fPar3, asgRw, fFor, fMut, fPut, fUpd, E.v, E.a, E.i, E.o, E.c, sVar, sCon, sTup, sLst, aNil, aCons, vl, vv, sOp1, sOp2, sB, bE, bNot, bAnd, bOr, sAnd, sOr, sIte, sChn, sSl, oNone, oSome, sCall, sPop, sDnew, sDisp, sLrg, sShr, iOf, iRan1, iRan2, bYes, Cn.d, B1.sem, rr_tup, rr_lst, rr_scr, rr_dct, rr_int, rr_str, rr_bl, rr_non, rr_ref, rr_f, rr_o, Rw.val, binD, cmpR, cmpD, ofB, List.replicate, bb, b_law, innF, lEv, e3, big]
  have p3 : (hd (tl (tl bb))).sem (callN T 11) (lEv ns [.va (.int tn), .va (eSky many bells storms), .va (.bl j), .va (ePl j pages), y6, y7, y8]) ah3 = some (.nx (lEv ns [.va (.int tn), .va (eSky many bells storms), .va (.bl j), .va (ePl j pages), .va (.str s0), y7, y8]) ah3) := by
    simp [runF, S.sem, fSeq, fIf, fRet, fRetN, fSkip, fDrop, fAsg, fAsgT, fPar, fPar3, asgRw, fFor, fMut, fPut, fUpd, E.v, E.a, E.i, E.o, E.c, sVar, sCon, sTup, sLst, aNil, aCons, vl, vv, sOp1, sOp2, sB, bE, bNot, bAnd, bOr, sAnd, sOr, sIte, sChn, sSl, oNone, oSome, sCall, sPop, sDnew, sDisp, sLrg, sShr, iOf, iRan1, iRan2, bYes, Cn.d, B1.sem, rr_tup, rr_lst, rr_scr, rr_dct, rr_int, rr_str, rr_bl, rr_non, rr_ref, rr_f, rr_o, Rw.val, binD, cmpR, cmpD, ofB, List.replicate, bb, b_law, innF, lEv, hr, big]
  have p4 : (hd (tl (tl (tl bb)))).sem (callN T 11) (lEv ns [.va (.int tn), .va (eSky many bells storms), .va (.bl j), .va (ePl j pages), .va (.str s0), y7, y8]) ah3 = some (.nx (lEv ns [.va (.int tn), .va (eSky many bells storms), .va (.bl j), .va (ePl j pages), .va (.str s0), .ow (.dct []), y8]) ah3) := by
    simp [runF, S.sem, fSeq, fIf, fRet, fRetN, fSkip, fDrop, fAsg, fAsgT, fPar, fPar3, asgRw, fFor, fMut, fPut, fUpd, E.v, E.a, E.i, E.o, E.c, sVar, sCon, sTup, sLst, aNil, aCons, vl, vv, sOp1, sOp2, sB, bE, bNot, bAnd, bOr, sAnd, sOr, sIte, sChn, sSl, oNone, oSome, sCall, sPop, sDnew, sDisp, sLrg, sShr, iOf, iRan1, iRan2, bYes, Cn.d, B1.sem, rr_tup, rr_lst, rr_scr, rr_dct, rr_int, rr_str, rr_bl, rr_non, rr_ref, rr_f, rr_o, Rw.val, binD, cmpR, cmpD, ofB, List.replicate, bb, b_law, innF, lEv]
  have p5 : (hd (tl (tl (tl (tl bb))))).sem (callN T 11) (lEv ns [.va (.int tn), .va (eSky many bells storms), .va (.bl j), .va (ePl j pages), .va (.str s0), .ow (.dct []), y8]) ah3 = some (.nx (lEv ns [.va (.int tn), .va (eSky many bells storms), .va (.bl j), .va (ePl j pages), .va (.str s0), .ow (.dct (if j then tdB storms pages else tdD storms pages)), z8]) ah3) := by
    have hi : (E.i (callN T 11) (E.it (E.bin (Operator.Add) (E.lst (E.cons (E.cn (Cn.str mAlw)) (E.cons (E.cn (Cn.str mKept)) (E.nil)))) (E.bin (Operator.Mult) (E.lst (E.cons (E.cn (Cn.str mSure)) (E.cons (E.cn (Cn.str mNev)) (E.nil)))) (E.b1 (B1.int) (E.not (E.var 4))))))) (lEv ns [.va (.int tn), .va (eSky many bells storms), .va (.bl j), .va (ePl j pages), .va (.str s0), .ow (.dct []), y8]) ah3 = some ((if j then [.str mAlw, .str mKept] else [.str mAlw, .str mKept, .str mSure, .str mNev], none), ah3) := by
      cases j <;> simp [runF, S.sem, fSeq, fIf, fRet, fRetN, fSkip, fDrop, fAsg, fAsgT, fPar, fPar3, asgRw, fFor, fMut, fPut, fUpd, E.v, E.a, E.i, E.o, E.c, sVar, sCon, sTup, sLst, aNil, aCons, vl, vv, sOp1, sOp2, sB, bE, bNot, bAnd, bOr, sAnd, sOr, sIte, sChn, sSl, oNone, oSome, sCall, sPop, sDnew, sDisp, sLrg, sShr, iOf, iRan1, iRan2, bYes, Cn.d, B1.sem, rr_tup, rr_lst, rr_scr, rr_dct, rr_int, rr_str, rr_bl, rr_non, rr_ref, rr_f, rr_o, Rw.val, binD, cmpR, cmpD, ofB, List.replicate, lEv, addD, mulD, intD, big]
    show ((E.i (callN T 11) _ _ _).bind _) = _
    rw [hi, Option.bind_some]
    exact e4
  have p6 : (hd (tl (tl (tl (tl (tl bb)))))).sem (callN T 11) (lEv ns [.va (.int tn), .va (eSky many bells storms), .va (.bl j), .va (ePl j pages), .va (.str s0), .ow (.dct (if j then tdB storms pages else tdD storms pages)), z8]) ah3 = some (.nx (lEv ns [.va (.int tn), .va (eSky many bells storms), .va (.bl j), .va (ePl j pages), .va (.str s0), .ow (.dct (if j then tdB storms pages else tdD storms pages)), z8]) ah3) := by
    cases j with
    | true => simp [runF, S.sem, fSeq, fIf, fRet, fRetN, fSkip, fDrop, fAsg, fAsgT, fPar, fPar3, asgRw, fFor, fMut, fPut, fUpd, E.v, E.a, E.i, E.o, E.c, sVar, sCon, sTup, sLst, aNil, aCons, vl, vv, sOp1, sOp2, sB, bE, bNot, bAnd, bOr, sAnd, sOr, sIte, sChn, sSl, oNone, oSome, sCall, sPop, sDnew, sDisp, sLrg, sShr, iOf, iRan1, iRan2, bYes, Cn.d, B1.sem, rr_tup, rr_lst, rr_scr, rr_dct, rr_int, rr_str, rr_bl, rr_non, rr_ref, rr_f, rr_o, Rw.val, binD, cmpR, cmpD, ofB, List.replicate, bb, b_law, innF, lEv]
    | false =>
      have ik : ixD (.dct (tdD storms pages)) (.str mKept) = some (.v (eHo (hits (Hm storms pages mKept) pages))) := by simp [ixD, dfind, kk_str, sameKind, KK.isK]
      have is' : ixD (.dct (tdD storms pages)) (.str mSure) = some (.v (eHo (hits (Hm storms pages mSure) pages))) := by simp [ixD, dfind, kk_str, sameKind, KK.isK]
      have et : callN T 11 23 [eSky many bells storms, ePl false pages] ah3 = some (.v (.bl (torn bells storms pages)), ah3) := torn_t (k := 8) wp ws
      have ht : hits (Hm storms pages mKept) pages = none → ∀ q, hits (Hm storms pages mSure) pages = some q → torn bells storms pages = true := fun h1 q h2 => torn_of hb h1 h2
      simp only [Bool.false_eq_true, if_false]
      generalize tdD storms pages = td at *
      cases hk : hits (Hm storms pages mKept) pages with
      | some q =>
        rw [hk] at ik
        simp [runF, S.sem, fSeq, fIf, fRet, fRetN, fSkip, fDrop, fAsg, fAsgT, fPar, fPar3, asgRw, fFor, fMut, fPut, fUpd, E.v, E.a, E.i, E.o, E.c, sVar, sCon, sTup, sLst, aNil, aCons, vl, vv, sOp1, sOp2, sB, bE, bNot, bAnd, bOr, sAnd, sOr, sIte, sChn, sSl, oNone, oSome, sCall, sPop, sDnew, sDisp, sLrg, sShr, iOf, iRan1, iRan2, bYes, Cn.d, B1.sem, rr_tup, rr_lst, rr_scr, rr_dct, rr_int, rr_str, rr_bl, rr_non, rr_ref, rr_f, rr_o, Rw.val, binD, cmpR, cmpD, ofB, List.replicate, bb, b_law, innF, lEv, ik, eHo, eH]
      | none =>
        rw [hk] at ik
        cases hq : hits (Hm storms pages mSure) pages with
        | none =>
          rw [hq] at is'
          simp [runF, S.sem, fSeq, fIf, fRet, fRetN, fSkip, fDrop, fAsg, fAsgT, fPar, fPar3, asgRw, fFor, fMut, fPut, fUpd, E.v, E.a, E.i, E.o, E.c, sVar, sCon, sTup, sLst, aNil, aCons, vl, vv, sOp1, sOp2, sB, bE, bNot, bAnd, bOr, sAnd, sOr, sIte, sChn, sSl, oNone, oSome, sCall, sPop, sDnew, sDisp, sLrg, sShr, iOf, iRan1, iRan2, bYes, Cn.d, B1.sem, rr_tup, rr_lst, rr_scr, rr_dct, rr_int, rr_str, rr_bl, rr_non, rr_ref, rr_f, rr_o, Rw.val, binD, cmpR, cmpD, ofB, List.replicate, bb, b_law, innF, lEv, ik, is', eHo]
        | some q =>
          rw [hq] at is'
          rw [ht hk q hq] at et
          simp [runF, S.sem, fSeq, fIf, fRet, fRetN, fSkip, fDrop, fAsg, fAsgT, fPar, fPar3, asgRw, fFor, fMut, fPut, fUpd, E.v, E.a, E.i, E.o, E.c, sVar, sCon, sTup, sLst, aNil, aCons, vl, vv, sOp1, sOp2, sB, bE, bNot, bAnd, bOr, sAnd, sOr, sIte, sChn, sSl, oNone, oSome, sCall, sPop, sDnew, sDisp, sLrg, sShr, iOf, iRan1, iRan2, bYes, Cn.d, B1.sem, rr_tup, rr_lst, rr_scr, rr_dct, rr_int, rr_str, rr_bl, rr_non, rr_ref, rr_f, rr_o, Rw.val, binD, cmpR, cmpD, ofB, List.replicate, bb, b_law, innF, lEv, ik, is', et, eHo, eH]
  have p7 : (hd (tl (tl (tl (tl (tl (tl bb))))))).sem (callN T 11) (lEv ns [.va (.int tn), .va (eSky many bells storms), .va (.bl j), .va (ePl j pages), .va (.str s0), .ow (.dct (if j then tdB storms pages else tdD storms pages)), z8]) ah3 = some (.nx (lEv ns [.va (.int tn), .va (eSky many bells storms), .va (.bl j), .va (ePl j pages), .va (.str s0), .ow (.dct (if j then tdB storms pages else tdD storms pages)), z8]) ah3) := by
    simp [runF, S.sem, fSeq, fIf, fRet, fRetN, fSkip, fDrop, fAsg, fAsgT, fPar, fPar3, asgRw, fFor, fMut, fPut, fUpd, E.v, E.a, E.i, E.o, E.c, sVar, sCon, sTup, sLst, aNil, aCons, vl, vv, sOp1, sOp2, sB, bE, bNot, bAnd, bOr, sAnd, sOr, sIte, sChn, sSl, oNone, oSome, sCall, sPop, sDnew, sDisp, sLrg, sShr, iOf, iRan1, iRan2, bYes, Cn.d, B1.sem, rr_tup, rr_lst, rr_scr, rr_dct, rr_int, rr_str, rr_bl, rr_non, rr_ref, rr_f, rr_o, Rw.val, binD, cmpR, cmpD, ofB, List.replicate, bb, b_law, innF, lEv, hr, hs0, big]
  refine ⟨ah3, .va (eSky many bells storms), .va (.bl j), .va (ePl j pages), .va (.str s0), .ow (.dct (if j then tdB storms pages else tdD storms pages)), z8, ?_, dk3⟩
  rw [show bb = .seq (hd bb) (.seq (hd (tl bb)) (.seq (hd (tl (tl bb))) (.seq (hd (tl (tl (tl bb)))) (.seq (hd (tl (tl (tl (tl bb))))) (.seq (hd (tl (tl (tl (tl (tl bb)))))) (.seq (hd (tl (tl (tl (tl (tl (tl bb))))))) .skip)))))) from rfl]
  rw [seq_nx p1, seq_nx p2, seq_nx p3, seq_nx p4, seq_nx p5, seq_nx p6, seq_nx p7]
  rfl
theorem law_ok (ns : List Int) (hn : ns.length ≤ 63) : ∃ ah', callN T 12 24 [.scr (ns.map .int)] [] = some (.v (.bl true), ah') := by
  obtain ⟨d, gs, e0, dk0⟩ := deck_G (T := T) (j := 7) (c0 := 15912) (c5 := 69621) (c6 := 29) (p := 4294967291) rfl (by decide) (by decide) (k := 10) hn
  have e0 : callN T 11 7 [.scr (ns.map .int)] [] = some (.f d, [.lst gs]) := e0
  obtain ⟨env', ah', e, dk', x2, x3, x4, x5, x6, x7, x8, rfl⟩ := for_at (fun i : Nat => D.int (0 + (i : Int))) (t := .nm 2) (f := bb.sem (callN T 11))
    (fun done env ah => DkK ah ∧ ∃ (x2 x3 x4 x5 x6 x7 x8 : Sl), env = lEv ns [x2, x3, x4, x5, x6, x7, x8]) (xs := List.range 4) (done := [])
    (env := lEv ns [.un, .un, .un, .un, .un, .un, .un]) (ah := [.lst gs, d]) ⟨dk0, _, _, _, _, _, _, _, rfl⟩
    (fun i rest done env ah hd ⟨dk, x2, x3, x4, x5, x6, x7, x8, he⟩ => by
      subst he
      obtain ⟨ah', z3, z4, z5, z6, z7, z8, e, dk'⟩ := turn_t (ns := ns) (tn := 0 + (i : Int)) (y3 := x3) (y4 := x4) (y5 := x5) (y6 := x6) (y7 := x7) (y8 := x8) dk
      exact ⟨lEv ns [.va (.int (0 + (i : Int))), x3, x4, x5, x6, x7, x8], rfl, _, ah', e, dk', _, _, _, _, _, _, _, rfl⟩)
  refine ⟨ah', ?_⟩
  rw [callN_at (fd := ⟨1, 9, b_law⟩) rfl rfl]
  have s1 : (hd b_law).sem (callN T 11) [.va (.scr (ns.map .int)), .un, .un, .un, .un, .un, .un, .un, .un] [] = some (.nx (lEv ns [.un, .un, .un, .un, .un, .un, .un]) [.lst gs, d]) := by
    simp [runF, S.sem, fSeq, fIf, fRet, fRetN, fSkip, fDrop, fAsg, fAsgT, fPar, fPar3, asgRw, fFor, fMut, fPut, fUpd, E.v, E.a, E.i, E.o, E.c, sVar, sCon, sTup, sLst, aNil, aCons, vl, vv, sOp1, sOp2, sB, bE, bNot, bAnd, bOr, sAnd, sOr, sIte, sChn, sSl, oNone, oSome, sCall, sPop, sDnew, sDisp, sLrg, sShr, iOf, iRan1, iRan2, bYes, Cn.d, B1.sem, rr_tup, rr_lst, rr_scr, rr_dct, rr_int, rr_str, rr_bl, rr_non, rr_ref, rr_f, rr_o, Rw.val, binD, cmpR, cmpD, ofB, List.replicate, b_law, lEv, e0]
  have s2 : (hd (tl b_law)).sem (callN T 11) (lEv ns [.un, .un, .un, .un, .un, .un, .un]) [.lst gs, d] = some (.nx (lEv ns [x2, x3, x4, x5, x6, x7, x8]) ah') := by
    have hi : E.i (callN T 11) (.rng1 (.cn (.int 4))) (lEv ns [.un, .un, .un, .un, .un, .un, .un]) [.lst gs, d] = some ((rngD 0 4, none), [.lst gs, d]) := by simp [runF, S.sem, fSeq, fIf, fRet, fRetN, fSkip, fDrop, fAsg, fAsgT, fPar, fPar3, asgRw, fFor, fMut, fPut, fUpd, E.v, E.a, E.i, E.o, E.c, sVar, sCon, sTup, sLst, aNil, aCons, vl, vv, sOp1, sOp2, sB, bE, bNot, bAnd, bOr, sAnd, sOr, sIte, sChn, sSl, oNone, oSome, sCall, sPop, sDnew, sDisp, sLrg, sShr, iOf, iRan1, iRan2, bYes, Cn.d, B1.sem, rr_tup, rr_lst, rr_scr, rr_dct, rr_int, rr_str, rr_bl, rr_non, rr_ref, rr_f, rr_o, Rw.val, binD, cmpR, cmpD, ofB, List.replicate]
    rw [show hd (tl b_law) = .for (.rng1 (.cn (.int 4))) (.nm 2) bb from rfl, S.sem, fFor, hi]
    exact e
  have : b_law.sem (callN T 11) [.va (.scr (ns.map .int)), .un, .un, .un, .un, .un, .un, .un, .un] [] = some (.rt (.v (.bl true)) ah') := by
    rw [show b_law = .seq (hd b_law) (.seq (hd (tl b_law)) (.seq (.ret (.cn (.bl true))) .skip)) from rfl, seq_nx s1, seq_nx s2]
    rfl
  show ((b_law.sem (callN T 11) [.va (.scr (ns.map .int)), .un, .un, .un, .un, .un, .un, .un, .un] []).bind _) = _
  rw [this]
  rfl
end
end U.k83
open PySem PySem.W PyProof.Rows
set_option maxHeartbeats 0 in
theorem PySem.Challenge.cw_stormwards_k83_whole_looks_that_end_at_o_holds : PySem.Challenge.rw_stormwards_k83_whole_looks_that_end_at_o.Holds := by
  w_on; o_law; k_head; (case hw => w_witness2)
  k_fill
  refine U.walk_U (l := PySem.Challenge.rw_stormwards_k83_whole_looks_that_end_at_o) (n := 63) (k := 12) (x := "script") (g := U.callN U.k83.T 12 24) rfl (by decide) rfl ⟨rfl, by decide, by decide⟩ (fun w h Y => PySem.W.kIn_of Y) ?F U.k83.law_ok
  case F =>
    intro w mg fa h KX G hmg
    refine' U.k83.all_mk KX G hmg (U.fact_mk ?a0 ?l0 ?c0 ?k0) (U.fact_mk ?a1 ?l1 ?c1 ?k1) (U.fact_mk ?a2 ?l2 ?c2 ?k2) (U.fact_mk ?a3 ?l3 ?c3 ?k3) (U.fact_mk ?a4 ?l4 ?c4 ?k4) (U.fact_mk ?a5 ?l5 ?c5 ?k5) (U.fact_mk ?a6 ?l6 ?c6 ?k6) (U.fact_mk ?a7 ?l7 ?c7 ?k7) (U.fact_mk ?a8 ?l8 ?c8 ?k8) (U.fact_mk ?a9 ?l9 ?c9 ?k9) (U.fact_mk ?a10 ?l10 ?c10 ?k10) (U.fact_mk ?a11 ?l11 ?c11 ?k11) (U.fact_mk ?a12 ?l12 ?c12 ?k12) (U.fact_mk ?a13 ?l13 ?c13 ?k13) (U.fact_mk ?a14 ?l14 ?c14 ?k14) (U.fact_mk ?a15 ?l15 ?c15 ?k15) (U.fact_mk ?a16 ?l16 ?c16 ?k16) (U.fact_mk ?a17 ?l17 ?c17 ?k17) (U.fact_mk ?a18 ?l18 ?c18 ?k18) (U.fact_mk ?a19 ?l19 ?c19 ?k19) (U.fact_mk ?a20 ?l20 ?c20 ?k20) (U.fact_mk ?a21 ?l21 ?c21 ?k21) (U.fact_mk ?a22 ?l22 ?c22 ?k22) (U.fact_mk ?a23 ?l23 ?c23 ?k23) (U.fact_mk ?a24 ?l24 ?c24 ?k24) ?z0 ?z1 ?z2 ?z3 ?z4 ?z5 ?z6 ?z7 ?z8 ?z9 ?z10 ?z11
    (case a0 => k_is); (case l0 => k_is); (case c0 => k_is); (case k0 => k_is)
    (case a1 => k_is); (case l1 => k_is); (case c1 => k_is); (case k1 => k_is)
    (case a2 => k_is); (case l2 => k_is); (case c2 => k_is); (case k2 => k_is)
    (case a3 => k_is); (case l3 => k_is); (case c3 => k_is); (case k3 => k_is)
    (case a4 => k_is); (case l4 => k_is); (case c4 => k_is); (case k4 => k_is)
    (case a5 => k_is); (case l5 => k_is); (case c5 => k_is); (case k5 => k_is)
    (case a6 => k_is); (case l6 => k_is); (case c6 => k_is); (case k6 => k_is)
    (case a7 => k_is); (case l7 => k_is); (case c7 => k_is); (case k7 => k_is)
    (case a8 => k_is); (case l8 => k_is); (case c8 => k_is); (case k8 => k_is)
    (case a9 => k_is); (case l9 => k_is); (case c9 => k_is); (case k9 => k_is)
    (case a10 => k_is); (case l10 => k_is); (case c10 => k_is); (case k10 => k_is)
    (case a11 => k_is); (case l11 => k_is); (case c11 => k_is); (case k11 => k_is)
    (case a12 => k_is); (case l12 => k_is); (case c12 => k_is); (case k12 => k_is)
    (case a13 => k_is); (case l13 => k_is); (case c13 => k_is); (case k13 => k_is)
    (case a14 => k_is); (case l14 => k_is); (case c14 => k_is); (case k14 => k_is)
    (case a15 => k_is); (case l15 => k_is); (case c15 => k_is); (case k15 => k_is)
    (case a16 => k_is); (case l16 => k_is); (case c16 => k_is); (case k16 => k_is)
    (case a17 => k_is); (case l17 => k_is); (case c17 => k_is); (case k17 => k_is)
    (case a18 => k_is); (case l18 => k_is); (case c18 => k_is); (case k18 => k_is)
    (case a19 => k_is); (case l19 => k_is); (case c19 => k_is); (case k19 => k_is)
    (case a20 => k_is); (case l20 => k_is); (case c20 => k_is); (case k20 => k_is)
    (case a21 => k_is); (case l21 => k_is); (case c21 => k_is); (case k21 => k_is)
    (case a22 => k_is); (case l22 => k_is); (case c22 => k_is); (case k22 => k_is)
    (case a23 => k_is); (case l23 => k_is); (case c23 => k_is); (case k23 => k_is)
    (case a24 => k_is); (case l24 => k_is); (case c24 => k_is); (case k24 => k_is)
    (case z0 => k_is); (case z1 => k_is); (case z2 => k_is); (case z3 => k_is); (case z4 => k_is); (case z5 => k_is); (case z6 => k_is); (case z7 => k_is); (case z8 => k_is); (case z9 => k_is); (case z10 => k_is); (case z11 => k_is)
