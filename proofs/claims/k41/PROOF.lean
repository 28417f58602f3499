import PyProof.Rows.All
import Wide.All
import OpenK.AllK
import Wide.FinOn
import HandS.ForMost
import HandS.ForExc
import HandS.Deep
import HandS.Star
import HandS.TupAny
import HandS.DictComp
import HandS.IsInst
import HandS.ExcSuper
import PySem.Challenge.RW_mastcalls_k41_whole_takes_over
import HandS.Conv
import HandS.Sort
import HandS.WordsDict
import HandS.More
set_option Elab.async false
set_option maxRecDepth 100000
set_option maxHeartbeats 4000000
set_option linter.all false
/-! K41A: the council as plain data, what its parts do, and why what was settled stays. -/
namespace K41

/-! ### the data -/
inductive Ent where
  | num (n : Int)
  | new (n : Int)
  | late
  deriving DecidableEq

abbrev Row := List (Int × Ent)

inductive Rec where
  | prom (e : Int)
  | take (e : Int) (p : Nat) (x : Ent)
  deriving DecidableEq

def Rec.ep : Rec → Int
  | .prom e => e
  | .take e _ _ => e

inductive Let where
  | ask (e : Int) (n : Nat)
  | write (e : Int) (n p : Nat) (x : Ent)
  | refused (e : Int) (n : Nat) (k : Int)
  | told (e : Int) (n : Nat) (r : Row)
  | taken (e : Int) (n p : Nat)

def Let.ep : Let → Int
  | .ask e _ => e
  | .write e _ _ _ => e
  | .refused e _ _ => e
  | .told e _ _ => e
  | .taken e _ _ => e

def Let.num : Let → Nat
  | .ask _ n => n
  | .write _ n _ _ => n
  | .refused _ n _ => n
  | .told _ n _ => n
  | .taken _ n _ => n

/-- is it for a keeper -/
def Let.down : Let → Bool
  | .ask _ _ => true
  | .write _ _ _ _ => true
  | _ => false

def most (m : Nat) : Nat := m / 2 + 1

structure Kn where
  ep : Int
  row : Row

def Kn.put (k : Kn) : Rec → Kn
  | .prom e => ⟨if e > k.ep then e else k.ep, k.row⟩
  | .take e p x => ⟨if e > k.ep then e else k.ep, if p < k.row.length then k.row.set p (e, x) else k.row ++ [(e, x)]⟩

def kn0 : Kn := ⟨-1, []⟩
def knOf (rs : List Rec) : Kn := rs.foldl Kn.put kn0

structure Kp where
  recs : List Rec
  loose : List Rec
  wait : List Let

def Kp.hist (k : Kp) : List Rec := k.recs ++ k.loose
def Kp.kn (k : Kp) : Kn := knOf k.hist

def fits (q : Kn) (e : Int) (p : Nat) : Bool :=
  decide (p ≤ q.row.length) && (decide (p = 0) || decide ((q.row[p - 1]?).map (·.1) = some e))

def Kp.handle (i : Nat) (k : Kp) : Let → Kp
  | .ask e _ =>
    if e < k.kn.ep then { k with wait := k.wait ++ [.refused e i k.kn.ep] }
    else { k with loose := if k.kn.ep < e then k.loose ++ [.prom e] else k.loose, wait := k.wait ++ [.told e i k.kn.row] }
  | .write e _ p x =>
    if e < k.kn.ep then { k with wait := k.wait ++ [.refused e i k.kn.ep] }
    else if fits k.kn e p = true then
      { k with loose := if p = k.kn.row.length ∨ k.kn.row[p]? ≠ some (e, x) then k.loose ++ [.take e p x] else k.loose, wait := k.wait ++ [.taken e i p] }
    else k
  | _ => k

def Kp.flush (k : Kp) : Kp := ⟨k.hist, [], []⟩

/-! ### rows of a reading sequencer -/
def getR (rows : List (Nat × Row)) (n : Nat) : Option Row := (rows.find? fun q => decide (q.1 = n)).map (·.2)
def putR (rows : List (Nat × Row)) (n : Nat) (r : Row) : List (Nat × Row) :=
  if (rows.any fun q => decide (q.1 = n)) = true then rows.map fun q => if q.1 = n then (q.1, r) else q else rows ++ [(n, r)]
def sortedRows (m : Nat) (rows : List (Nat × Row)) : List Row := (List.range m).filterMap (getR rows)

def maxN (l : List Nat) : Nat := l.foldl max 0
def longest (rs : List Row) : Nat := maxN (rs.map List.length)
def maxE : List (Int × Ent) → Int
  | [] => 0
  | [q] => q.1
  | q :: r => max q.1 (maxE r)
def pick (l : List (Int × Ent)) : Ent := ((l.filter fun q => decide (q.1 = maxE l)).head?.map (·.2)).getD .late
def newest (rs : List Row) : List Ent := (List.range (longest rs)).map fun p => pick (rs.filterMap fun r => r[p]?)

inductive Stand where
  | asking | leading | stopped
  deriving DecidableEq

structure Sq where
  ep : Int
  stand : Stand
  rows : List (Nat × Row)
  row : List Ent
  taken : List Nat

def Sq.hearOwn (m : Nat) (s : Sq) : Let → Sq
  | .refused _ _ _ => { s with stand := .stopped }
  | .told _ n r =>
    if s.stand = .asking then
      if most m ≤ (putR s.rows n r).length then { s with rows := putR s.rows n r, row := newest (sortedRows m (putR s.rows n r)), stand := .leading }
      else { s with rows := putR s.rows n r }
    else s
  | .taken _ n p => if s.stand = .leading ∧ s.taken[n]? = some p then { s with taken := s.taken.set n (p + 1) } else s
  | _ => s
def Sq.hear (m : Nat) (s : Sq) (l : Let) : Sq := if l.ep ≠ s.ep ∨ s.stand = .stopped then s else s.hearOwn m l

def Sq.toSend (m : Nat) (s : Sq) : List Let :=
  match s.stand with
  | .asking => ((List.range m).filter fun n => (getR s.rows n).isNone).map (.ask s.ep)
  | .leading => (List.range m).filterMap fun n => (s.row[s.taken.getD n 0]?).map (.write s.ep n (s.taken.getD n 0))
  | .stopped => []

def Sq.add (s : Sq) (x : Ent) : Sq := { s with row := s.row ++ [x] }
def fresh (m : Nat) (e : Int) : Sq := ⟨e, .asking, [], [], List.replicate m 0⟩

/-! ### what holds of them -/
def Has (ss : List Sq) (e : Int) : Prop := ∃ s ∈ ss, s.ep = e
def Wrote (ss : List Sq) (e : Int) (p : Nat) (x : Ent) : Prop := ∃ s ∈ ss, s.ep = e ∧ s.row[p]? = some x

def ToldOk (ks : List Kp) (ss : List Sq) (e : Int) (n : Nat) (r : Row) : Prop :=
  ∃ k, ks[n]? = some k ∧ e ≤ k.kn.ep ∧ Has ss e ∧ (∀ e' p x, Rec.take e' p x ∈ k.hist → e' < e → ∃ q, r[p]? = some q ∧ e' ≤ q.1) ∧
    (∀ p q, r[p]? = some q → q.1 ≤ e ∧ Wrote ss q.1 p q.2)

def LetOk (m : Nat) (ks : List Kp) (ss : List Sq) : Let → Prop
  | .ask e n => n < m ∧ Has ss e
  | .write e n p x => n < m ∧ Wrote ss e p x
  | .refused e n _ => n < m ∧ ∃ s ∈ ss, e < s.ep
  | .told e n r => n < m ∧ ToldOk ks ss e n r
  | .taken e n p => n < m ∧ ∃ s ∈ ss, s.ep = e ∧ p < s.row.length

structure KpOk (ss : List Sq) (k : Kp) : Prop where
  wrote : ∀ e p x, Rec.take e p x ∈ k.hist → Wrote ss e p x
  has : ∀ r ∈ k.hist, Has ss r.ep
  cover : ∀ e p x, Rec.take e p x ∈ k.hist → ∃ q, k.kn.row[p]? = some q ∧ e ≤ q.1
  back : ∀ p q, k.kn.row[p]? = some q → Rec.take q.1 p q.2 ∈ k.hist

def Led (m : Nat) (s : Sq) : Prop := most m ≤ s.rows.length ∧ newest (sortedRows m s.rows) <+: s.row

structure SqOk (m : Nat) (ks : List Kp) (ss : List Sq) (s : Sq) : Prop where
  nn : 0 ≤ s.ep
  keys : (s.rows.map (·.1)).Nodup
  told : ∀ n r, (n, r) ∈ s.rows → n < m ∧ ToldOk ks ss s.ep n r ∧ ∀ (p : Nat) (q : Int × Ent), r[p]? = some q → q.1 < s.ep
  ask : s.stand = .asking → s.row = [] ∧ s.rows.length < most m
  lead : s.stand = .leading → Led m s
  rowLed : s.row ≠ [] → Led m s
  tlen : s.taken.length = m
  tle : ∀ t ∈ s.taken, t ≤ s.row.length

structure Inv (m : Nat) (ks : List Kp) (ss : List Sq) (ls : List Let) : Prop where
  klen : ks.length = m
  eps : (ss.map (·.ep)).Nodup
  kp : ∀ k ∈ ks, KpOk ss k
  wait : ∀ k ∈ ks, ∀ l ∈ k.wait, LetOk m ks ss l
  sq : ∀ s ∈ ss, SqOk m ks ss s
  letters : ∀ l ∈ ls, LetOk m ks ss l

/-! ### folds -/
theorem knOf_snoc (rs : List Rec) (r : Rec) : knOf (rs ++ [r]) = (knOf rs).put r := by
  unfold knOf
  rw [List.foldl_append]
  rfl
theorem put_ep_le (q : Kn) (r : Rec) : q.ep ≤ (q.put r).ep ∧ r.ep ≤ (q.put r).ep ∧ ((q.put r).ep = q.ep ∨ (q.put r).ep = r.ep) := by
  cases r with
  | prom e =>
    show q.ep ≤ (if e > q.ep then e else q.ep) ∧ e ≤ (if e > q.ep then e else q.ep) ∧ ((if e > q.ep then e else q.ep) = q.ep ∨ (if e > q.ep then e else q.ep) = e)
    split <;> omega
  | take e p x =>
    show q.ep ≤ (if e > q.ep then e else q.ep) ∧ e ≤ (if e > q.ep then e else q.ep) ∧ ((if e > q.ep then e else q.ep) = q.ep ∨ (if e > q.ep then e else q.ep) = e)
    split <;> omega
theorem rev_ind {α : Type} {P : List α → Prop} (h0 : P []) (hs : ∀ l x, P l → P (l ++ [x])) (l : List α) : P l := by
  rw [← List.reverse_reverse l]
  induction l.reverse with
  | nil => exact h0
  | cons x r ih =>
    rw [List.reverse_cons]
    exact hs _ _ ih
theorem knOf_ep (rs : List Rec) : (∀ r ∈ rs, r.ep ≤ (knOf rs).ep) ∧ ((knOf rs).ep = -1 ∨ ∃ r ∈ rs, r.ep = (knOf rs).ep) ∧ -1 ≤ (knOf rs).ep := by
  refine rev_ind (P := fun rs => (∀ r ∈ rs, r.ep ≤ (knOf rs).ep) ∧ ((knOf rs).ep = -1 ∨ ∃ r ∈ rs, r.ep = (knOf rs).ep) ∧ -1 ≤ (knOf rs).ep) ?_ ?_ rs
  · exact ⟨fun r h => by simp at h, .inl rfl, Int.le_refl _⟩
  · intro l x ⟨h1, h2, h3⟩
    rw [knOf_snoc]
    obtain ⟨a, b, c⟩ := put_ep_le (knOf l) x
    refine ⟨fun r h => ?_, ?_, Int.le_trans h3 a⟩
    · rcases List.mem_append.mp h with h | h
      · exact Int.le_trans (h1 r h) a
      · rw [List.mem_singleton.mp h]
        exact b
    · rcases c with c | c
      · rw [c]
        rcases h2 with h2 | ⟨r, hr, e⟩
        · exact .inl h2
        · exact .inr ⟨r, List.mem_append_left _ hr, e⟩
      · exact .inr ⟨x, by simp, c.symm⟩
theorem knOf_len (rs : List Rec) : (knOf rs).row.length ≤ rs.length := by
  refine rev_ind (P := fun rs => (knOf rs).row.length ≤ rs.length) (by simp [knOf, kn0]) ?_ rs
  intro l x h
  rw [knOf_snoc, List.length_append]
  cases x with
  | prom e =>
    show (knOf l).row.length ≤ _
    simp
    omega
  | take e p y =>
    show (if p < (knOf l).row.length then (knOf l).row.set p (e, y) else (knOf l).row ++ [(e, y)]).length ≤ _
    split <;> simp <;> omega

/-! ### a keeper takes a record -/
theorem put_row_take {q : Kn} {e : Int} {p : Nat} {x : Ent} (hp : p ≤ q.row.length) :
    (q.put (.take e p x)).row[p]? = some (e, x) ∧ ∀ i, i ≠ p → (q.put (.take e p x)).row[i]? = q.row[i]? := by
  show (if p < q.row.length then q.row.set p (e, x) else q.row ++ [(e, x)])[p]? = some (e, x) ∧
    ∀ i, i ≠ p → (if p < q.row.length then q.row.set p (e, x) else q.row ++ [(e, x)])[i]? = q.row[i]?
  by_cases h : p < q.row.length
  · rw [if_pos h]
    refine ⟨List.getElem?_set_self h, fun i hi => List.getElem?_set_ne (fun z => hi z.symm)⟩
  · rw [if_neg h]
    have e1 : p = q.row.length := by omega
    subst e1
    refine ⟨by simp, fun i hi => ?_⟩
    by_cases hl : i < q.row.length
    · exact List.getElem?_append_left hl
    · rw [List.getElem?_eq_none (by simp; omega), List.getElem?_eq_none (by omega)]

theorem KpOk.prom {ss : List Sq} {k : Kp} (h : KpOk ss k) {e : Int} (he : Has ss e) : KpOk ss { k with loose := k.loose ++ [.prom e] } := by
  have eh : ({ k with loose := k.loose ++ [.prom e] } : Kp).hist = k.hist ++ [.prom e] := by simp [Kp.hist]
  have er : ({ k with loose := k.loose ++ [.prom e] } : Kp).kn.row = k.kn.row := by
    unfold Kp.kn
    rw [eh, knOf_snoc]
    rfl
  have hm : ∀ e' p x, Rec.take e' p x ∈ k.hist ++ [.prom e] → Rec.take e' p x ∈ k.hist := fun e' p x m => by
    rcases List.mem_append.mp m with m | m
    · exact m
    · exact nomatch List.mem_singleton.mp m
  constructor
  · rw [eh]
    exact fun e' p x m => h.wrote e' p x (hm _ _ _ m)
  · rw [eh]
    intro r m
    rcases List.mem_append.mp m with m | m
    · exact h.has r m
    · rw [List.mem_singleton.mp m]
      exact he
  · rw [eh, er]
    exact fun e' p x m => h.cover e' p x (hm _ _ _ m)
  · rw [eh, er]
    exact fun p q m => List.mem_append_left _ (h.back p q m)

theorem KpOk.take {ss : List Sq} {k : Kp} (h : KpOk ss k) {e : Int} {p : Nat} {x : Ent} (hw : Wrote ss e p x) (he : k.kn.ep ≤ e) (hp : p ≤ k.kn.row.length) :
    KpOk ss { k with loose := k.loose ++ [.take e p x] } := by
  have eh : ({ k with loose := k.loose ++ [.take e p x] } : Kp).hist = k.hist ++ [.take e p x] := by simp [Kp.hist]
  have ek : ({ k with loose := k.loose ++ [.take e p x] } : Kp).kn = k.kn.put (.take e p x) := by
    unfold Kp.kn
    rw [eh, knOf_snoc]
  obtain ⟨r1, r2⟩ := put_row_take (q := k.kn) (e := e) (x := x) hp
  have low := (knOf_ep k.hist).1
  constructor
  · rw [eh]
    intro e' p' x' m
    rcases List.mem_append.mp m with m | m
    · exact h.wrote _ _ _ m
    · cases List.mem_singleton.mp m
      exact hw
  · rw [eh]
    intro r m
    rcases List.mem_append.mp m with m | m
    · exact h.has r m
    · rw [List.mem_singleton.mp m]
      obtain ⟨s, hs, e1, _⟩ := hw
      exact ⟨s, hs, e1⟩
  · rw [eh, ek]
    intro e' p' x' m
    rcases List.mem_append.mp m with m1 | m1
    · have l1 : e' ≤ k.kn.ep := low (.take e' p' x') m1
      by_cases hpp : p' = p
      · subst hpp
        exact ⟨_, r1, Int.le_trans l1 he⟩
      · rw [r2 p' hpp]
        exact h.cover _ _ _ m1
    · cases List.mem_singleton.mp m1
      exact ⟨_, r1, Int.le_refl _⟩
  · rw [eh, ek]
    intro p' q m
    by_cases hpp : p' = p
    · subst hpp
      rw [r1] at m
      cases m
      simp
    · rw [r2 p' hpp] at m
      exact List.mem_append_left _ (h.back _ _ m)

/-! ### what only grows -/
structure Adv (ks : List Kp) (ss : List Sq) (ks' : List Kp) (ss' : List Sq) : Prop where
  seqs : ∀ s ∈ ss, ∃ s' ∈ ss', s'.ep = s.ep ∧ s.row <+: s'.row
  keepers : ∀ (n : Nat) k, ks[n]? = some k → ∃ k', ks'[n]? = some k' ∧ k.kn.ep ≤ k'.kn.ep ∧ (∀ r ∈ k.hist, r ∈ k'.hist) ∧
    ∀ e p x, Rec.take e p x ∈ k'.hist → Rec.take e p x ∈ k.hist ∨ k.kn.ep ≤ e

theorem Adv.refl (ks : List Kp) (ss : List Sq) : Adv ks ss ks ss :=
  ⟨fun s h => ⟨s, h, rfl, List.prefix_refl _⟩, fun n k h => ⟨k, h, Int.le_refl _, fun _ h => h, fun _ _ _ h => .inl h⟩⟩
theorem Adv.trans {ks ss ks1 ss1 ks2 ss2} (a : Adv ks ss ks1 ss1) (b : Adv ks1 ss1 ks2 ss2) : Adv ks ss ks2 ss2 := by
  refine ⟨fun s h => ?_, fun n k h => ?_⟩
  · obtain ⟨s1, h1, e1, p1⟩ := a.seqs s h
    obtain ⟨s2, h2, e2, p2⟩ := b.seqs s1 h1
    exact ⟨s2, h2, e2.trans e1, p1.trans p2⟩
  · obtain ⟨k1, h1, l1, m1, t1⟩ := a.keepers n k h
    obtain ⟨k2, h2, l2, m2, t2⟩ := b.keepers n k1 h1
    refine ⟨k2, h2, Int.le_trans l1 l2, fun r hr => m2 r (m1 r hr), fun e p x hx => ?_⟩
    rcases t2 e p x hx with z | z
    · exact t1 e p x z
    · exact .inr (Int.le_trans l1 z)
theorem pre_get {l l' : List Ent} (h : l <+: l') {p : Nat} {x : Ent} (e : l[p]? = some x) : l'[p]? = some x := by
  obtain ⟨t, rfl⟩ := h
  have hp : p < l.length := (List.getElem?_eq_some_iff.mp e).1
  rw [List.getElem?_append_left hp]
  exact e
theorem Has.adv {ks ss ks' ss'} (a : Adv ks ss ks' ss') {e : Int} (h : Has ss e) : Has ss' e := by
  obtain ⟨s, hs, e1⟩ := h
  obtain ⟨s', hs', e2, _⟩ := a.seqs s hs
  exact ⟨s', hs', e2.trans e1⟩
theorem Wrote.adv {ks ss ks' ss'} (a : Adv ks ss ks' ss') {e : Int} {p : Nat} {x : Ent} (h : Wrote ss e p x) : Wrote ss' e p x := by
  obtain ⟨s, hs, e1, r⟩ := h
  obtain ⟨s', hs', e2, q⟩ := a.seqs s hs
  exact ⟨s', hs', e2.trans e1, pre_get q r⟩
theorem ToldOk.adv {ks ss ks' ss'} (a : Adv ks ss ks' ss') {e : Int} {n : Nat} {r : Row} (h : ToldOk ks ss e n r) : ToldOk ks' ss' e n r := by
  obtain ⟨k, hk, l, hh, c, b⟩ := h
  obtain ⟨k', hk', l', m', t'⟩ := a.keepers n k hk
  refine ⟨k', hk', Int.le_trans l l', hh.adv a, fun e' p x hx he => ?_, fun p q hq => ⟨(b p q hq).1, (b p q hq).2.adv a⟩⟩
  rcases t' e' p x hx with z | z
  · exact c e' p x z he
  · omega
theorem LetOk.adv {m ks ss ks' ss'} (a : Adv ks ss ks' ss') {l : Let} (h : LetOk m ks ss l) : LetOk m ks' ss' l := by
  cases l with
  | ask e n => exact ⟨h.1, h.2.adv a⟩
  | write e n p x => exact ⟨h.1, h.2.adv a⟩
  | refused e n k =>
    obtain ⟨h0, s, hs, e1⟩ := h
    obtain ⟨s', hs', e2, _⟩ := a.seqs s hs
    exact ⟨h0, s', hs', by omega⟩
  | told e n r => exact ⟨h.1, h.2.adv a⟩
  | taken e n p =>
    obtain ⟨h0, s, hs, e1, l⟩ := h
    obtain ⟨s', hs', e2, q⟩ := a.seqs s hs
    exact ⟨h0, s', hs', e2.trans e1, Nat.lt_of_lt_of_le l q.length_le⟩
theorem KpOk.adv {ks ss ks' ss' k} (a : Adv ks ss ks' ss') (h : KpOk ss k) : KpOk ss' k :=
  ⟨fun e p x m => (h.wrote e p x m).adv a, fun r m => (h.has r m).adv a, h.cover, h.back⟩
theorem SqOk.adv {m ks ss ks' ss' s} (a : Adv ks ss ks' ss') (h : SqOk m ks ss s) : SqOk m ks' ss' s :=
  ⟨h.nn, h.keys, fun n r q => ⟨(h.told n r q).1, (h.told n r q).2.1.adv a, (h.told n r q).2.2⟩, h.ask, h.lead, h.rowLed, h.tlen, h.tle⟩

/-! ### newest rows -/
theorem maxN_fold (l : List Nat) : ∀ a, a ≤ l.foldl max a ∧ ∀ x ∈ l, x ≤ l.foldl max a := by
  induction l with
  | nil => intro a; exact ⟨Nat.le_refl _, fun x h => by simp at h⟩
  | cons y r ih =>
    intro a
    obtain ⟨h1, h2⟩ := ih (max a y)
    refine ⟨Nat.le_trans (Nat.le_max_left _ _) h1, fun x h => ?_⟩
    rcases List.mem_cons.mp h with rfl | h
    · exact Nat.le_trans (Nat.le_max_right _ _) h1
    · exact h2 x h
theorem maxN_mem (l : List Nat) : ∀ a, l.foldl max a = a ∨ l.foldl max a ∈ l := by
  induction l with
  | nil => intro a; exact .inl rfl
  | cons y r ih =>
    intro a
    show r.foldl max (max a y) = a ∨ r.foldl max (max a y) ∈ y :: r
    rcases ih (max a y) with h | h
    · rw [h]
      by_cases hy : y ≤ a
      · exact .inl (Nat.max_eq_left hy)
      · exact .inr (by rw [Nat.max_eq_right (by omega)]; simp)
    · exact .inr (List.mem_cons_of_mem _ h)
theorem maxE_le : ∀ (l : List (Int × Ent)) q, q ∈ l → q.1 ≤ maxE l
  | [], q, h => by simp at h
  | [a], q, h => by
    rw [List.mem_singleton.mp h]
    exact Int.le_refl _
  | a :: b :: r, q, h => by
    show q.1 ≤ max a.1 (maxE (b :: r))
    rcases List.mem_cons.mp h with rfl | h
    · omega
    · have := maxE_le (b :: r) q h
      omega
theorem maxE_mem : ∀ (l : List (Int × Ent)), l ≠ [] → ∃ q ∈ l, q.1 = maxE l
  | [], h => absurd rfl h
  | [a], _ => ⟨a, by simp, rfl⟩
  | a :: b :: r, _ => by
    obtain ⟨q, hq, e⟩ := maxE_mem (b :: r) (by simp)
    show ∃ q ∈ a :: b :: r, q.1 = max a.1 (maxE (b :: r))
    by_cases h : maxE (b :: r) ≤ a.1
    · exact ⟨a, by simp, by omega⟩
    · exact ⟨q, List.mem_cons_of_mem _ hq, by omega⟩
theorem pick_mem {l : List (Int × Ent)} (h : l ≠ []) : (maxE l, pick l) ∈ l := by
  obtain ⟨q, hq, e⟩ := maxE_mem l h
  have hf : l.filter (fun q => decide (q.1 = maxE l)) ≠ [] := fun z => by
    have : q ∈ l.filter (fun q => decide (q.1 = maxE l)) := List.mem_filter.mpr ⟨hq, decide_eq_true e⟩
    rw [z] at this
    simp at this
  unfold pick
  cases hc : l.filter (fun q => decide (q.1 = maxE l)) with
  | nil => exact absurd hc hf
  | cons b r =>
    have hb : b ∈ l.filter (fun q => decide (q.1 = maxE l)) := by rw [hc]; simp
    obtain ⟨h1, h2⟩ := List.mem_filter.mp hb
    have e2 : b.1 = maxE l := of_decide_eq_true h2
    show (maxE l, b.2) ∈ l
    rw [← e2]
    exact h1
theorem newest_spec {rs : List Row} {p : Nat} {r : Row} {q : Int × Ent} (hr : r ∈ rs) (hq : r[p]? = some q) :
    ∃ r' ∈ rs, ∃ q', r'[p]? = some q' ∧ q.1 ≤ q'.1 ∧ (newest rs)[p]? = some q'.2 := by
  have hp : p < longest rs := by
    have h1 : p < r.length := (List.getElem?_eq_some_iff.mp hq).1
    have h2 := (maxN_fold (rs.map List.length) 0).2 r.length (List.mem_map.mpr ⟨r, hr, rfl⟩)
    exact Nat.lt_of_lt_of_le h1 h2
  have hm : q ∈ rs.filterMap (fun r => r[p]?) := List.mem_filterMap.mpr ⟨r, hr, hq⟩
  have hne : rs.filterMap (fun r => r[p]?) ≠ [] := fun z => by rw [z] at hm; simp at hm
  have h3 := pick_mem hne
  obtain ⟨r', hr', e'⟩ := List.mem_filterMap.mp h3
  refine ⟨r', hr', _, e', maxE_le _ _ hm, ?_⟩
  unfold newest
  rw [List.getElem?_map, List.getElem?_range hp]
  rfl
theorem newest_len (rs : List Row) : (newest rs).length = longest rs := by simp [newest]
theorem longest_le {rs : List Row} {b : Nat} (h : ∀ r ∈ rs, r.length ≤ b) : longest rs ≤ b := by
  unfold longest maxN
  rcases maxN_mem (rs.map List.length) 0 with e | e
  · rw [e]; exact Nat.zero_le _
  · obtain ⟨r, hr, e2⟩ := List.mem_map.mp e
    rw [← e2]
    exact h r hr

theorem getR_mem {rows : List (Nat × Row)} {n : Nat} {r : Row} (h : getR rows n = some r) : (n, r) ∈ rows := by
  unfold getR at h
  obtain ⟨q, hq, e⟩ := Option.map_eq_some_iff.mp h
  have h1 := List.mem_of_find?_eq_some hq
  have h2 := List.find?_some hq
  have h3 : q.1 = n := of_decide_eq_true h2
  rw [← h3, ← e]
  exact h1
theorem getR_of_mem : ∀ {rows : List (Nat × Row)} {n : Nat} {r : Row}, (rows.map (·.1)).Nodup → (n, r) ∈ rows → getR rows n = some r
  | [], _, _, _, h => by simp at h
  | q :: l, n, r, hn, h => by
    rw [List.map_cons, List.nodup_cons] at hn
    unfold getR
    rw [List.find?_cons]
    rcases List.mem_cons.mp h with e | h
    · subst e
      simp
    · have hne : ¬ q.1 = n := fun z => hn.1 (List.mem_map.mpr ⟨(n, r), h, z.symm⟩)
      rw [decide_eq_false hne]
      exact getR_of_mem hn.2 h
theorem getR_none {rows : List (Nat × Row)} {n : Nat} (h : getR rows n = none) : n ∉ rows.map (·.1) := by
  unfold getR at h
  rw [Option.map_eq_none_iff, List.find?_eq_none] at h
  intro z
  obtain ⟨q, hq, e⟩ := List.mem_map.mp z
  exact h q hq (decide_eq_true e)
theorem sorted_mem {m : Nat} {rows : List (Nat × Row)} {r : Row} (h : r ∈ sortedRows m rows) : ∃ n, (n, r) ∈ rows := by
  obtain ⟨n, _, e⟩ := List.mem_filterMap.mp h
  exact ⟨n, getR_mem e⟩
theorem mem_sorted {m : Nat} {rows : List (Nat × Row)} {n : Nat} {r : Row} (hn : (rows.map (·.1)).Nodup) (hm : n < m) (h : (n, r) ∈ rows) : r ∈ sortedRows m rows :=
  List.mem_filterMap.mpr ⟨n, List.mem_range.mpr hm, getR_of_mem hn h⟩
theorem any_key {rows : List (Nat × Row)} {n : Nat} : (rows.any fun q => decide (q.1 = n)) = true ↔ n ∈ rows.map (·.1) := by
  rw [List.any_eq_true, List.mem_map]
  constructor
  · rintro ⟨q, h, e⟩
    exact ⟨q, h, of_decide_eq_true e⟩
  · rintro ⟨q, h, e⟩
    exact ⟨q, h, decide_eq_true e⟩
theorem putR_keys (rows : List (Nat × Row)) (n : Nat) (r : Row) : (putR rows n r).map (·.1) = if n ∈ rows.map (·.1) then rows.map (·.1) else rows.map (·.1) ++ [n] := by
  unfold putR
  by_cases h : n ∈ rows.map (·.1)
  · rw [if_pos (any_key.mpr h), if_pos h, List.map_map]
    refine List.map_congr_left fun q _ => ?_
    show (if q.1 = n then (q.1, r) else q).1 = q.1
    split <;> rfl
  · rw [if_neg (fun z => h (any_key.mp z)), if_neg h]
    simp
theorem putR_nodup {rows : List (Nat × Row)} {n : Nat} {r : Row} (h : (rows.map (·.1)).Nodup) : ((putR rows n r).map (·.1)).Nodup := by
  rw [putR_keys]
  split
  · exact h
  · rename_i hn
    rw [List.nodup_append]
    refine ⟨h, by simp, fun a ha b hb => ?_⟩
    rw [List.mem_singleton] at hb
    subst hb
    exact fun z => hn (z ▸ ha)
theorem putR_mem {rows : List (Nat × Row)} {n : Nat} {r : Row} {n' : Nat} {r' : Row} (h : (n', r') ∈ putR rows n r) : (n' = n ∧ r' = r) ∨ (n', r') ∈ rows := by
  unfold putR at h
  split at h
  · obtain ⟨q, hq, e⟩ := List.mem_map.mp h
    by_cases c : q.1 = n
    · rw [if_pos c] at e
      cases e
      exact .inl ⟨c, rfl⟩
    · rw [if_neg c] at e
      rw [← e]
      exact .inr hq
  · rcases List.mem_append.mp h with h | h
    · exact .inr h
    · cases List.mem_singleton.mp h
      exact .inl ⟨rfl, rfl⟩
theorem putR_key (rows : List (Nat × Row)) (n : Nat) (r : Row) : n ∈ (putR rows n r).map (·.1) := by
  rw [putR_keys]
  split
  · assumption
  · simp
theorem putR_keep {rows : List (Nat × Row)} {n : Nat} {r : Row} {n' : Nat} (h : n' ∈ rows.map (·.1)) : n' ∈ (putR rows n r).map (·.1) := by
  rw [putR_keys]
  split
  · exact h
  · exact List.mem_append_left _ h

/-! ### two lots of most have one in common -/
theorem nodup_le {m : Nat} {l : List Nat} (hn : l.Nodup) (hb : ∀ x ∈ l, x < m) : l.length ≤ m := by
  have h := (List.subset_def.mpr fun {x} hx => List.mem_range.mpr (hb x hx) : l ⊆ List.range m)
  have h2 := hn.length_le_of_subset h
  rw [List.length_range] at h2
  exact h2
theorem meet {m : Nat} {a b : List Nat} (ha : a.Nodup) (hb : b.Nodup) (la : ∀ x ∈ a, x < m) (lb : ∀ x ∈ b, x < m) (ca : most m ≤ a.length) (cb : most m ≤ b.length) : ∃ x, x ∈ a ∧ x ∈ b := by
  refine Classical.byContradiction fun h => ?_
  have hd : (a ++ b).Nodup := by
    rw [List.nodup_append]
    exact ⟨ha, hb, fun x hx y hy z => h ⟨x, hx, z ▸ hy⟩⟩
  have := nodup_le (m := m) hd fun x hx => by
    rcases List.mem_append.mp hx with hx | hx
    · exact la x hx
    · exact lb x hx
  rw [List.length_append] at this
  unfold most at ca cb
  omega
end K41
set_option linter.all false
/-! K41B: each step of a council keeps what holds; what most keepers took stands in the row of every later leader. -/
namespace K41

theorem ep_inj : ∀ {ss : List Sq}, (ss.map (·.ep)).Nodup → ∀ s ∈ ss, ∀ s' ∈ ss, s.ep = s'.ep → s = s'
  | [], _, s, h, _, _, _ => by simp at h
  | a :: l, hn, s, h, s', h', e => by
    rw [List.map_cons, List.nodup_cons] at hn
    rcases List.mem_cons.mp h with h1 | h1
    · rcases List.mem_cons.mp h' with h2 | h2
      · rw [h1, h2]
      · exact absurd (List.mem_map.mpr ⟨s', h2, by rw [← e, h1]⟩) hn.1
    · rcases List.mem_cons.mp h' with h2 | h2
      · exact absurd (List.mem_map.mpr ⟨s, h1, by rw [e, h2]⟩) hn.1
      · exact ep_inj hn.2 s h1 s' h2 e

theorem Adv.set {ks : List Kp} {ss : List Sq} {n : Nat} {k k' : Kp} (hk : ks[n]? = some k) (h1 : k.kn.ep ≤ k'.kn.ep) (h2 : ∀ r ∈ k.hist, r ∈ k'.hist)
    (h3 : ∀ e p x, Rec.take e p x ∈ k'.hist → Rec.take e p x ∈ k.hist ∨ k.kn.ep ≤ e) : Adv ks ss (ks.set n k') ss := by
  have hn : n < ks.length := (List.getElem?_eq_some_iff.mp hk).1
  refine ⟨fun s h => ⟨s, h, rfl, List.prefix_refl _⟩, fun i c hc => ?_⟩
  by_cases e : i = n
  · subst e
    rw [hk] at hc
    cases hc
    exact ⟨k', List.getElem?_set_self hn, h1, h2, h3⟩
  · exact ⟨c, by rw [List.getElem?_set_ne (fun z => e z.symm)]; exact hc, Int.le_refl _, fun _ h => h, fun _ _ _ h => .inl h⟩

theorem Inv.setK {m : Nat} {ks : List Kp} {ss : List Sq} {ls : List Let} {n : Nat} {k k' : Kp} (I : Inv m ks ss ls) (hk : ks[n]? = some k) (a : Adv ks ss (ks.set n k') ss) (hok : KpOk ss k')
    (hw : ∀ l ∈ k'.wait, LetOk m (ks.set n k') ss l) : Inv m (ks.set n k') ss ls := by
  refine ⟨by rw [List.length_set]; exact I.klen, I.eps, fun c hc => ?_, fun c hc l hl => ?_, fun s hs => (I.sq s hs).adv a, fun l hl => (I.letters l hl).adv a⟩
  · rcases List.mem_or_eq_of_mem_set hc with h | h
    · exact I.kp c h
    · rw [h]; exact hok
  · rcases List.mem_or_eq_of_mem_set hc with h | h
    · exact (I.wait c h l hl).adv a
    · rw [h] at hl
      exact hw l hl

theorem Inv.later {m ks ss ls} (I : Inv m ks ss ls) {k : Kp} (hk : k ∈ ks) {e : Int} (he : Has ss e) (hl : e < k.kn.ep) : ∃ s ∈ ss, e < s.ep := by
  obtain ⟨s, hs, e1⟩ := he
  have h0 := (I.sq s hs).nn
  rcases (knOf_ep k.hist).2.1 with z | ⟨r, hr, z⟩
  · have z' : k.kn.ep = -1 := z
    omega
  · obtain ⟨s2, hs2, e2⟩ := (I.kp k hk).has r hr
    have z' : r.ep = k.kn.ep := z
    exact ⟨s2, hs2, by omega⟩

/-- a keeper gets a letter -/
theorem Inv.handle {m : Nat} {ks : List Kp} {ss : List Sq} {ls : List Let} {n : Nat} {k : Kp} {l : Let} (I : Inv m ks ss ls) (hk : ks[n]? = some k) (hl : LetOk m ks ss l) :
    Adv ks ss (ks.set n (k.handle n l)) ss ∧ Inv m (ks.set n (k.handle n l)) ss ls := by
  have hkm : k ∈ ks := List.mem_of_getElem? hk
  have hn : n < m := by rw [← I.klen]; exact (List.getElem?_eq_some_iff.mp hk).1
  have low := (knOf_ep k.hist).1
  have ok := I.kp k hkm
  have old := I.wait k hkm
  -- one more answer, nothing else
  have one : ∀ a : Let, LetOk m ks ss a → Adv ks ss (ks.set n { k with wait := k.wait ++ [a] }) ss ∧ Inv m (ks.set n { k with wait := k.wait ++ [a] }) ss ls := fun a ha => by
    have ad : Adv ks ss (ks.set n { k with wait := k.wait ++ [a] }) ss := Adv.set hk (Int.le_refl _) (fun _ h => h) fun _ _ _ h => .inl h
    refine ⟨ad, I.setK hk ad ⟨ok.wrote, ok.has, ok.cover, ok.back⟩ fun b hb => ?_⟩
    rcases List.mem_append.mp hb with hb | hb
    · exact (old b hb).adv ad
    · rw [List.mem_singleton.mp hb]
      exact ha.adv ad
  have same : Adv ks ss (ks.set n k) ss ∧ Inv m (ks.set n k) ss ls := by
    have ad : Adv ks ss (ks.set n k) ss := Adv.set hk (Int.le_refl _) (fun _ h => h) fun _ _ _ h => .inl h
    exact ⟨ad, I.setK hk ad ok fun b hb => (old b hb).adv ad⟩
  cases l with
  | ask e n' =>
    obtain ⟨_, he⟩ := hl
    by_cases c : e < k.kn.ep
    · have q := one (.refused e n k.kn.ep) ⟨hn, I.later hkm he c⟩
      simp only [Kp.handle, if_pos c]
      exact q
    · simp only [Kp.handle, if_neg c]
      generalize hk' : (if k.kn.ep < e then k.loose ++ [Rec.prom e] else k.loose) = lo
      have hh : ∀ w, (Kp.mk k.recs lo w).hist = k.recs ++ lo := fun w => rfl
      have key : (∀ r ∈ k.hist, r ∈ k.recs ++ lo) ∧ (∀ e' p x, Rec.take e' p x ∈ k.recs ++ lo → Rec.take e' p x ∈ k.hist) ∧ (knOf (k.recs ++ lo)).row = k.kn.row ∧ e ≤ (knOf (k.recs ++ lo)).ep ∧ k.kn.ep ≤ (knOf (k.recs ++ lo)).ep ∧
          KpOk ss ⟨k.recs, lo, k.wait⟩ := by
        by_cases d : k.kn.ep < e
        · rw [if_pos d] at hk'
          subst hk'
          have ea : k.recs ++ (k.loose ++ [Rec.prom e]) = k.hist ++ [Rec.prom e] := by simp [Kp.hist]
          have ek : knOf (k.recs ++ (k.loose ++ [Rec.prom e])) = k.kn.put (.prom e) := by
            rw [ea, knOf_snoc]
            rfl
          obtain ⟨p1, p2, _⟩ := put_ep_le k.kn (.prom e)
          refine ⟨fun r h => by rw [ea]; exact List.mem_append_left _ h, fun e' p x h => ?_, by rw [ek]; rfl, by rw [ek]; exact p2, by rw [ek]; exact p1, ok.prom he⟩
          rw [ea] at h
          rcases List.mem_append.mp h with h | h
          · exact h
          · exact nomatch List.mem_singleton.mp h
        · rw [if_neg d] at hk'
          subst hk'
          exact ⟨fun r h => h, fun _ _ _ h => h, rfl, (by have : e ≤ k.kn.ep := by omega
                                                          exact this), Int.le_refl _, ok⟩
      obtain ⟨k1, k2, k3, k4, k5, k6⟩ := key
      have ad : Adv ks ss (ks.set n ⟨k.recs, lo, k.wait ++ [.told e n k.kn.row]⟩) ss := Adv.set hk k5 k1 fun e' p x h => .inl (k2 e' p x h)
      refine ⟨ad, I.setK hk ad ⟨k6.wrote, k6.has, k6.cover, k6.back⟩ fun b hb => ?_⟩
      rcases List.mem_append.mp hb with hb | hb
      · exact (old b hb).adv ad
      · rw [List.mem_singleton.mp hb]
        refine ⟨hn, _, List.getElem?_set_self (by rw [I.klen]; exact hn), k4, he, fun e' p x h _ => ok.cover e' p x (k2 e' p x h), fun p q hq => ?_⟩
        have h2 := ok.back p q hq
        have h3 : q.1 ≤ k.kn.ep := low _ h2
        exact ⟨by omega, ok.wrote _ _ _ h2⟩
  | write e n' p x =>
    obtain ⟨_, hw⟩ := hl
    have he : Has ss e := by
      obtain ⟨s, hs, e1, _⟩ := hw
      exact ⟨s, hs, e1⟩
    by_cases c : e < k.kn.ep
    · have q := one (.refused e n k.kn.ep) ⟨hn, I.later hkm he c⟩
      simp only [Kp.handle, if_pos c]
      exact q
    · by_cases f : fits k.kn e p = true
      · have ta : LetOk m ks ss (.taken e n p) := by
          obtain ⟨s, hs, e1, e2⟩ := hw
          exact ⟨hn, s, hs, e1, (List.getElem?_eq_some_iff.mp e2).1⟩
        simp only [Kp.handle, if_neg c, if_pos f]
        by_cases d : p = k.kn.row.length ∨ k.kn.row[p]? ≠ some (e, x)
        · rw [if_pos d]
          have hp : p ≤ k.kn.row.length := by
            unfold fits at f
            rw [Bool.and_eq_true] at f
            exact of_decide_eq_true f.1
          have ea : k.recs ++ (k.loose ++ [Rec.take e p x]) = k.hist ++ [Rec.take e p x] := by simp [Kp.hist]
          have hep : k.kn.ep ≤ (knOf (k.recs ++ (k.loose ++ [Rec.take e p x]))).ep := by
            rw [ea, knOf_snoc]
            exact (put_ep_le k.kn (.take e p x)).1
          have ad : Adv ks ss (ks.set n ⟨k.recs, k.loose ++ [Rec.take e p x], k.wait ++ [.taken e n p]⟩) ss := by
            refine Adv.set hk hep (fun r h => ?_) fun e' p' x' h => ?_
            · show r ∈ k.recs ++ (k.loose ++ [Rec.take e p x])
              rw [ea]
              exact List.mem_append_left _ h
            · have h' : Rec.take e' p' x' ∈ k.recs ++ (k.loose ++ [Rec.take e p x]) := h
              rw [ea] at h'
              rcases List.mem_append.mp h' with z | z
              · exact .inl z
              · cases List.mem_singleton.mp z
                exact .inr (by omega)
          have k6 := ok.take (e := e) (p := p) (x := x) hw (by omega) hp
          refine ⟨ad, I.setK hk ad ⟨k6.wrote, k6.has, k6.cover, k6.back⟩ fun b hb => ?_⟩
          rcases List.mem_append.mp hb with hb | hb
          · exact (old b hb).adv ad
          · rw [List.mem_singleton.mp hb]
            exact ta.adv ad
        · rw [if_neg d]
          exact one _ ta
      · simp only [Kp.handle, if_neg c, if_neg f]
        exact same
  | refused e n' q => exact same
  | told e n' r => exact same
  | taken e n' p => exact same

/-- a keeper settles -/
theorem Inv.flush {m : Nat} {ks : List Kp} {ss : List Sq} {ls : List Let} {n : Nat} {k : Kp} (I : Inv m ks ss ls) (hk : ks[n]? = some k) :
    Adv ks ss (ks.set n k.flush) ss ∧ Inv m (ks.set n k.flush) ss ls ∧ ∀ l ∈ k.wait, LetOk m (ks.set n k.flush) ss l := by
  have hkm : k ∈ ks := List.mem_of_getElem? hk
  have eh : k.flush.hist = k.hist := by simp [Kp.flush, Kp.hist]
  have ek : k.flush.kn = k.kn := by unfold Kp.kn; rw [eh]
  have ok := I.kp k hkm
  have ad : Adv ks ss (ks.set n k.flush) ss := Adv.set hk (by rw [ek]; exact Int.le_refl _) (fun r h => by rw [eh]; exact h) fun e p x h => .inl (by rw [eh] at h; exact h)
  refine ⟨ad, I.setK hk ad ⟨by rw [eh]; exact ok.wrote, by rw [eh]; exact ok.has, by rw [eh, ek]; exact ok.cover, by rw [eh, ek]; exact ok.back⟩ fun b hb => by simp [Kp.flush] at hb, fun l hl => (I.wait k hkm l hl).adv ad⟩

/-- letters go, and come -/
theorem Inv.lets {m ks ss ls ls'} (I : Inv m ks ss ls) (h : ∀ l ∈ ls', LetOk m ks ss l) : Inv m ks ss ls' := ⟨I.klen, I.eps, I.kp, I.wait, I.sq, h⟩

/-! ### a sequencer hears -/
theorem hear_ep (m : Nat) (s : Sq) (l : Let) : (s.hear m l).ep = s.ep := by
  unfold Sq.hear
  split
  · rfl
  · cases l with
    | told e n r =>
      simp only [Sq.hearOwn]
      split
      · split <;> rfl
      · rfl
    | taken e n p =>
      simp only [Sq.hearOwn]
      split <;> rfl
    | _ => rfl
theorem hear_row {m ks ss} {s : Sq} (h : SqOk m ks ss s) (l : Let) : s.row <+: (s.hear m l).row := by
  unfold Sq.hear
  split
  · exact List.prefix_refl _
  · cases l with
    | told e n r =>
      simp only [Sq.hearOwn]
      split
      · rename_i c
        split
        · rw [(h.ask c).1]
          exact List.nil_prefix
        · exact List.prefix_refl _
      · exact List.prefix_refl _
    | taken e n p =>
      simp only [Sq.hearOwn]
      split <;> exact List.prefix_refl _
    | _ => exact List.prefix_refl _
theorem Adv.mapS {ks : List Kp} {ss : List Sq} {f : Sq → Sq} (h : ∀ s ∈ ss, (f s).ep = s.ep ∧ s.row <+: (f s).row) : Adv ks ss ks (ss.map f) :=
  ⟨fun s hs => ⟨f s, List.mem_map.mpr ⟨s, hs, rfl⟩, (h s hs).1, (h s hs).2⟩, fun n k hk => ⟨k, hk, Int.le_refl _, fun _ h => h, fun _ _ _ h => .inl h⟩⟩
theorem hear_ok {m ks ss ls} (I : Inv m ks ss ls) {s : Sq} (hs : s ∈ ss) {l : Let} (hl : LetOk m ks ss l) : SqOk m ks ss (s.hear m l) := by
  have ok := I.sq s hs
  unfold Sq.hear
  split
  · exact ok
  · rename_i c
    have ce : l.ep = s.ep := Classical.byContradiction fun z => c (.inl z)
    have cs : s.stand ≠ .stopped := fun z => c (.inr z)
    cases l with
    | ask e n => exact ok
    | write e n p x => exact ok
    | refused e n k =>
      exact ⟨ok.nn, ok.keys, ok.told, fun z => Stand.noConfusion z, fun z => Stand.noConfusion z, ok.rowLed, ok.tlen, ok.tle⟩
    | told e n r =>
      have ce' : e = s.ep := ce
      subst ce'
      simp only [Sq.hearOwn]
      split
      · rename_i ca
        obtain ⟨er, _⟩ := ok.ask ca
        have nt : ∀ n' r', (n', r') ∈ putR s.rows n r → n' < m ∧ ToldOk ks ss s.ep n' r' ∧ ∀ (p : Nat) (q : Int × Ent), r'[p]? = some q → q.1 < s.ep := by
          intro n' r' hm
          rcases putR_mem hm with ⟨e1, e2⟩ | hm
          · subst e1; subst e2
            obtain ⟨hn, T⟩ := hl
            refine ⟨hn, T, fun p q hq => ?_⟩
            obtain ⟨k, _, _, _, _, b⟩ := T
            obtain ⟨h1, s2, hs2, e2, e3⟩ := b p q hq
            by_cases z : q.1 = s.ep
            · have := ep_inj I.eps s2 hs2 s hs (e2.trans z)
              subst this
              rw [er] at e3
              simp at e3
            · omega
          · exact ok.told n' r' hm
        have tz : ∀ t ∈ s.taken, t ≤ 0 := fun t ht => by
          have := ok.tle t ht
          rw [er] at this
          exact this
        split
        · rename_i cm
          have led : Led m { s with rows := putR s.rows n r, row := newest (sortedRows m (putR s.rows n r)), stand := .leading } := ⟨cm, List.prefix_refl _⟩
          exact ⟨ok.nn, putR_nodup ok.keys, nt, fun z => Stand.noConfusion z, fun _ => led, fun _ => led, ok.tlen, fun t ht => Nat.le_trans (tz t ht) (Nat.zero_le _)⟩
        · rename_i cm
          exact ⟨ok.nn, putR_nodup ok.keys, nt, fun _ => ⟨er, by show (putR s.rows n r).length < most m; omega⟩, fun z => absurd (ca.symm.trans z) (fun y => Stand.noConfusion y), fun z => absurd er z, ok.tlen, ok.tle⟩
      · exact ok
    | taken e n p =>
      simp only [Sq.hearOwn]
      split
      · rename_i ct
        obtain ⟨cl, cp⟩ := ct
        have hp : p < s.row.length := by
          obtain ⟨_, s2, hs2, e2, e3⟩ := hl
          have ce' : e = s.ep := ce
          have := ep_inj I.eps s2 hs2 s hs (e2.trans ce')
          rw [this] at e3
          exact e3
        refine ⟨ok.nn, ok.keys, ok.told, ok.ask, ok.lead, ok.rowLed, by show (s.taken.set n (p + 1)).length = m; rw [List.length_set]; exact ok.tlen, fun t ht => ?_⟩
        rcases List.mem_or_eq_of_mem_set ht with h | h
        · exact ok.tle t h
        · show t ≤ s.row.length
          omega
      · exact ok
theorem Inv.hear {m ks ss ls} (I : Inv m ks ss ls) {l : Let} (hl : LetOk m ks ss l) :
    Adv ks ss ks (ss.map fun s => s.hear m l) ∧ Inv m ks (ss.map fun s => s.hear m l) ls := by
  have ad : Adv ks ss ks (ss.map fun s => s.hear m l) := Adv.mapS fun s hs => ⟨hear_ep m s l, hear_row (I.sq s hs) l⟩
  refine ⟨ad, I.klen, ?_, fun k hk => (I.kp k hk).adv ad, fun k hk b hb => (I.wait k hk b hb).adv ad, fun s' hs' => ?_, fun b hb => (I.letters b hb).adv ad⟩
  · rw [List.map_map]
    have : ((fun s : Sq => s.ep) ∘ fun s : Sq => s.hear m l) = fun s : Sq => s.ep := by
      funext s
      exact hear_ep m s l
    rw [this]
    exact I.eps
  · obtain ⟨s, hs, e⟩ := List.mem_map.mp hs'
    subst e
    exact (hear_ok I hs hl).adv ad

/-- a sequencer sends -/
theorem send_ok {m ks ss ls} (I : Inv m ks ss ls) {s : Sq} (hs : s ∈ ss) : ∀ l ∈ s.toSend m, LetOk m ks ss l ∧ l.down = true ∧ l.ep = s.ep ∧ l.num < m := by
  intro l hl
  unfold Sq.toSend at hl
  split at hl
  · obtain ⟨n, hn, e⟩ := List.mem_map.mp hl
    subst e
    have h1 : n < m := List.mem_range.mp (List.mem_filter.mp hn).1
    exact ⟨⟨h1, s, hs, rfl⟩, rfl, rfl, h1⟩
  · obtain ⟨n, hn, e⟩ := List.mem_filterMap.mp hl
    obtain ⟨x, hx, e⟩ := Option.map_eq_some_iff.mp e
    subst e
    have h1 : n < m := List.mem_range.mp hn
    exact ⟨⟨h1, s, hs, rfl, hx⟩, rfl, rfl, h1⟩
  · simp at hl

/-- a leading one takes one more -/
theorem Inv.add {m ks ss ls} (I : Inv m ks ss ls) {j : Nat} {s : Sq} (hj : ss[j]? = some s) (x : Ent) (hl : s.stand = .leading) :
    Adv ks ss ks (ss.set j (s.add x)) ∧ Inv m ks (ss.set j (s.add x)) ls := by
  have hs : s ∈ ss := List.mem_of_getElem? hj
  have hlt : j < ss.length := (List.getElem?_eq_some_iff.mp hj).1
  have ok := I.sq s hs
  have ad : Adv ks ss ks (ss.set j (s.add x)) := by
    refine ⟨fun c hc => ?_, fun n k hk => ⟨k, hk, Int.le_refl _, fun _ h => h, fun _ _ _ h => .inl h⟩⟩
    obtain ⟨i, hi⟩ := List.getElem?_of_mem hc
    by_cases e : i = j
    · subst e
      rw [hj] at hi
      cases hi
      exact ⟨s.add x, List.mem_of_getElem? (List.getElem?_set_self hlt), rfl, List.prefix_append _ _⟩
    · exact ⟨c, List.mem_of_getElem? (i := i) (by rw [List.getElem?_set_ne (fun z => e z.symm)]; exact hi), rfl, List.prefix_refl _⟩
  refine ⟨ad, I.klen, ?_, fun k hk => (I.kp k hk).adv ad, fun k hk b hb => (I.wait k hk b hb).adv ad, fun c hc => ?_, fun b hb => (I.letters b hb).adv ad⟩
  · rw [List.map_set]
    have : (ss.map (·.ep)).set j (s.add x).ep = ss.map (·.ep) := by
      refine List.ext_getElem? fun i => ?_
      by_cases e : i = j
      · subst e
        rw [List.getElem?_set_self (by rw [List.length_map]; exact hlt), List.getElem?_map, hj]
        rfl
      · rw [List.getElem?_set_ne (fun z => e z.symm)]
    rw [this]
    exact I.eps
  · rcases List.mem_or_eq_of_mem_set hc with h | h
    · exact (I.sq c h).adv ad
    · subst h
      obtain ⟨l1, l2⟩ := ok.lead hl
      have led : Led m (s.add x) := ⟨l1, l2.trans (List.prefix_append _ _)⟩
      refine SqOk.adv ad ⟨ok.nn, ok.keys, ok.told, fun z => ?_, fun _ => led, fun _ => led, ok.tlen, fun t ht => ?_⟩
      · exact absurd (hl.symm.trans z) fun y => Stand.noConfusion y
      · show t ≤ (s.row ++ [x]).length
        have := ok.tle t ht
        simp
        omega

/-- one more sequencer -/
theorem Inv.begin {m ks ss ls} (I : Inv m ks ss ls) {e : Int} (h0 : 0 ≤ e) (hne : ∀ s ∈ ss, s.ep ≠ e) : Adv ks ss ks (ss ++ [fresh m e]) ∧ Inv m ks (ss ++ [fresh m e]) ls := by
  have ad : Adv ks ss ks (ss ++ [fresh m e]) :=
    ⟨fun s hs => ⟨s, List.mem_append_left _ hs, rfl, List.prefix_refl _⟩, fun n k hk => ⟨k, hk, Int.le_refl _, fun _ h => h, fun _ _ _ h => .inl h⟩⟩
  refine ⟨ad, I.klen, ?_, fun k hk => (I.kp k hk).adv ad, fun k hk b hb => (I.wait k hk b hb).adv ad, fun c hc => ?_, fun b hb => (I.letters b hb).adv ad⟩
  · rw [List.map_append, List.nodup_append]
    refine ⟨I.eps, by simp, fun a ha b hb => ?_⟩
    obtain ⟨s, hs, e1⟩ := List.mem_map.mp ha
    have e2 : b = e := by simpa [fresh] using hb
    rw [e2, ← e1]
    exact hne s hs
  · rcases List.mem_append.mp hc with h | h
    · exact (I.sq c h).adv ad
    · rw [List.mem_singleton.mp h]
      refine ⟨h0, by simp [fresh], fun n r q => by simp [fresh] at q, fun _ => ⟨rfl, by simp [fresh, most]⟩, fun z => Stand.noConfusion z, fun z => absurd rfl z, by simp [fresh], fun t ht => ?_⟩
      have : t = 0 := (List.mem_replicate.mp ht).2
      omega

/-! ### what most took -/
def takersN (ks : List Kp) (e : Int) (p : Nat) (x : Ent) : Nat := (ks.filter fun k => decide (Rec.take e p x ∈ k.recs)).length

theorem places {α : Type} (P : α → Bool) : ∀ l : List α, ∃ a : List Nat, a.Nodup ∧ (∀ n ∈ a, ∃ k, l[n]? = some k ∧ P k = true) ∧ a.length = (l.filter P).length
  | [] => ⟨[], by simp, fun n h => by simp at h, rfl⟩
  | k :: r => by
    obtain ⟨a, h1, h2, h3⟩ := places P r
    have hn : (a.map (· + 1)).Nodup := by
      rw [List.nodup_iff_pairwise_ne] at h1 ⊢
      rw [List.pairwise_map]
      exact h1.imp fun h z => h (by omega)
    have hm : ∀ n ∈ a.map (· + 1), ∃ c, (k :: r)[n]? = some c ∧ P c = true := fun n h => by
      obtain ⟨i, hi, e⟩ := List.mem_map.mp h
      subst e
      exact h2 i hi
    by_cases c : P k = true
    · refine ⟨0 :: a.map (· + 1), ?_, fun n h => ?_, ?_⟩
      · rw [List.nodup_cons]
        refine ⟨fun z => ?_, hn⟩
        obtain ⟨i, _, e⟩ := List.mem_map.mp z
        omega
      · rcases List.mem_cons.mp h with rfl | h
        · exact ⟨k, rfl, c⟩
        · exact hm n h
      · rw [List.filter_cons_of_pos c]
        simp [h3]
    · refine ⟨a.map (· + 1), hn, hm, ?_⟩
      rw [List.filter_cons_of_neg c]
      simp [h3]

theorem safe {m ks ss ls} (I : Inv m ks ss ls) {e : Int} {p : Nat} {x : Ent} (C : most m ≤ takersN ks e p x) : ∀ (N : Nat) s, s ∈ ss → s.ep.toNat ≤ N → e ≤ s.ep → Led m s → s.row[p]? = some x := by
  intro N
  induction N with
  | zero =>
    intro s hs hN he hL
    exact safe_step I C s hs he hL fun s2 h2 l2 => absurd l2 (by have := (I.sq s2 h2).nn; omega)
  | succ N ih =>
    intro s hs hN he hL
    exact safe_step I C s hs he hL fun s2 h2 l2 e2 L2 => ih s2 h2 (by have := (I.sq s2 h2).nn; omega) e2 L2
where
  safe_step {m ks ss ls} (I : Inv m ks ss ls) {e : Int} {p : Nat} {x : Ent} (C : most m ≤ takersN ks e p x) (s : Sq) (hs : s ∈ ss) (he : e ≤ s.ep) (hL : Led m s)
      (ih : ∀ s2, s2 ∈ ss → s2.ep < s.ep → e ≤ s2.ep → Led m s2 → s2.row[p]? = some x) : s.row[p]? = some x := by
    have ok := I.sq s hs
    obtain ⟨a, a1, a2, a3⟩ := places (fun k : Kp => decide (Rec.take e p x ∈ k.recs)) ks
    have C' : most m ≤ a.length := by rw [a3]; exact C
    obtain ⟨n, n1, n2⟩ := meet (m := m) a1 ok.keys (fun n hn => by
      obtain ⟨k, hk, _⟩ := a2 n hn
      rw [← I.klen]
      exact (List.getElem?_eq_some_iff.mp hk).1) (fun n hn => by
      obtain ⟨q, hq, eq⟩ := List.mem_map.mp hn
      rw [← eq]
      exact (ok.told q.1 q.2 hq).1) C' (by rw [List.length_map]; exact hL.1)
    obtain ⟨k, hk, hd⟩ := a2 n n1
    have hin : Rec.take e p x ∈ k.hist := List.mem_append_left _ (of_decide_eq_true hd)
    by_cases c : e = s.ep
    · obtain ⟨s2, hs2, e2, r2⟩ := (I.kp k (List.mem_of_getElem? hk)).wrote e p x hin
      have := ep_inj I.eps s2 hs2 s hs (e2.trans c)
      rw [← this]
      exact r2
    · have hlt : e < s.ep := by omega
      obtain ⟨⟨n', r⟩, hq, eq⟩ := List.mem_map.mp n2
      have eq' : n' = n := eq
      subst eq'
      obtain ⟨hnm, ⟨k', hk', _, _, cov, _⟩, _⟩ := ok.told n' r hq
      rw [hk] at hk'
      cases hk'
      obtain ⟨q, hq1, hq2⟩ := cov e p x hin hlt
      obtain ⟨r', hr', q', hq', le', hnew⟩ := newest_spec (mem_sorted ok.keys hnm hq) hq1
      obtain ⟨n2, hn2⟩ := sorted_mem hr'
      obtain ⟨_, ⟨_, _, _, _, _, b⟩, strict⟩ := ok.told n2 r' hn2
      obtain ⟨_, s2, hs2, e2, e3⟩ := b p q' hq'
      have l2 := strict p q' hq'
      have L2 : Led m s2 := (I.sq s2 hs2).rowLed fun z => by
        rw [z] at e3
        simp at e3
      have := ih s2 hs2 (by omega) (by omega) L2
      rw [e3] at this
      cases this
      exact pre_get hL.2 hnew
end K41
set_option linter.all false
/-! K41C: exchanges: a sequencer of a greater epoch leads behind one, settles an entry behind each further one; elder ones stop. -/
namespace K41

def onK (ks : List Kp) (n : Nat) (f : Kp → Kp) : List Kp :=
  match ks[n]? with
  | some k => ks.set n (f k)
  | none => ks
def giveAll (up : List Nat) (ks : List Kp) (ls : List Let) : List Kp :=
  ls.foldl (fun ks l => if l.num ∈ up then onK ks l.num (fun k => k.handle l.num l) else ks) ks
def Sq.hears (m : Nat) (s : Sq) (as : List Let) : Sq := as.foldl (fun s a => s.hear m a) s
def hearAll (m : Nat) (ss : List Sq) (as : List Let) : List Sq := as.foldl (fun ss a => ss.map fun s => s.hear m a) ss
def drain1 (m : Nat) (c : List Kp × List Sq) (n : Nat) : List Kp × List Sq :=
  match c.1[n]? with
  | some k => (c.1.set n k.flush, hearAll m c.2 k.wait)
  | none => c
def drain (m : Nat) (up : List Nat) (c : List Kp × List Sq) : List Kp × List Sq := up.foldl (drain1 m) c
def exch (m j : Nat) (up : List Nat) (ks : List Kp) (ss : List Sq) : List Kp × List Sq :=
  match ss[j]? with
  | some s => drain m up (giveAll up ks (s.toSend m), ss)
  | none => (ks, ss)

/-! ### what holds is kept -/
theorem onK_some {ks : List Kp} {n : Nat} {k : Kp} {f : Kp → Kp} (h : ks[n]? = some k) : onK ks n f = ks.set n (f k) := by unfold onK; rw [h]
theorem giveAll_cons (up : List Nat) (ks : List Kp) (l : Let) (ls : List Let) :
    giveAll up ks (l :: ls) = giveAll up (if l.num ∈ up then onK ks l.num (fun k => k.handle l.num l) else ks) ls := rfl
theorem LetOk.lt {m ks ss} {l : Let} (h : LetOk m ks ss l) : l.num < m := by
  cases l <;> exact h.1
theorem Inv.give {m : Nat} {ks : List Kp} {ss : List Sq} {ls : List Let} {up : List Nat} (I : Inv m ks ss ls) {l : Let} (h : LetOk m ks ss l) :
    Adv ks ss (if l.num ∈ up then onK ks l.num (fun k => k.handle l.num l) else ks) ss ∧ Inv m (if l.num ∈ up then onK ks l.num (fun k => k.handle l.num l) else ks) ss ls := by
  split
  · have hn : l.num < ks.length := by rw [I.klen]; exact h.lt
    have hk : ks[l.num]? = some ks[l.num] := List.getElem?_eq_getElem hn
    rw [onK_some hk]
    exact I.handle hk h
  · exact ⟨Adv.refl _ _, I⟩
theorem Inv.giveAll {m ss ls up} : ∀ {as : List Let} {ks : List Kp}, Inv m ks ss ls → (∀ l ∈ as, LetOk m ks ss l) → Adv ks ss (giveAll up ks as) ss ∧ Inv m (giveAll up ks as) ss ls
  | [], ks, I, _ => ⟨Adv.refl _ _, I⟩
  | l :: as, ks, I, h => by
    obtain ⟨a1, I1⟩ := I.give (up := up) (h l (by simp))
    obtain ⟨a2, I2⟩ := Inv.giveAll (as := as) (up := up) I1 fun b hb => (h b (List.mem_cons_of_mem _ hb)).adv a1
    rw [giveAll_cons]
    exact ⟨a1.trans a2, I2⟩
theorem Inv.hearAll {m ls} {ks : List Kp} : ∀ {as : List Let} {ss : List Sq}, Inv m ks ss ls → (∀ l ∈ as, LetOk m ks ss l) → Adv ks ss ks (hearAll m ss as) ∧ Inv m ks (hearAll m ss as) ls
  | [], ss, I, _ => ⟨Adv.refl _ _, I⟩
  | l :: as, ss, I, h => by
    obtain ⟨a1, I1⟩ := I.hear (h l (by simp))
    obtain ⟨a2, I2⟩ := Inv.hearAll (as := as) I1 fun b hb => (h b (List.mem_cons_of_mem _ hb)).adv a1
    exact ⟨a1.trans a2, I2⟩
theorem Inv.drain1 {m ls} {ks : List Kp} {ss : List Sq} (I : Inv m ks ss ls) (n : Nat) : Adv ks ss (drain1 m (ks, ss) n).1 (drain1 m (ks, ss) n).2 ∧ Inv m (drain1 m (ks, ss) n).1 (drain1 m (ks, ss) n).2 ls := by
  unfold K41.drain1
  cases h : ks[n]? with
  | none => exact ⟨Adv.refl _ _, I⟩
  | some k =>
    obtain ⟨a1, I1, w1⟩ := I.flush h
    obtain ⟨a2, I2⟩ := I1.hearAll w1
    exact ⟨a1.trans a2, I2⟩
theorem Inv.drain {m ls} : ∀ {up : List Nat} {ks : List Kp} {ss : List Sq}, Inv m ks ss ls → Adv ks ss (drain m up (ks, ss)).1 (drain m up (ks, ss)).2 ∧ Inv m (drain m up (ks, ss)).1 (drain m up (ks, ss)).2 ls
  | [], ks, ss, I => ⟨Adv.refl _ _, I⟩
  | n :: up, ks, ss, I => by
    obtain ⟨a1, I1⟩ := I.drain1 n
    obtain ⟨a2, I2⟩ := Inv.drain (up := up) I1
    exact ⟨a1.trans a2, I2⟩
theorem Inv.exch {m ls j up} {ks : List Kp} {ss : List Sq} (I : Inv m ks ss ls) : Adv ks ss (exch m j up ks ss).1 (exch m j up ks ss).2 ∧ Inv m (exch m j up ks ss).1 (exch m j up ks ss).2 ls := by
  unfold K41.exch
  cases h : ss[j]? with
  | none => exact ⟨Adv.refl _ _, I⟩
  | some s =>
    obtain ⟨a1, I1⟩ := I.giveAll (up := up) (as := s.toSend m) fun l hl => (send_ok I (List.mem_of_getElem? h) l hl).1
    obtain ⟨a2, I2⟩ := I1.drain (up := up)
    exact ⟨a1.trans a2, I2⟩

/-! ### the parts of an exchange, place by place -/
theorem hearAll_eq (m : Nat) : ∀ (as : List Let) (ss : List Sq), hearAll m ss as = ss.map fun s => s.hears m as
  | [], ss => by
    show ss = ss.map fun s => s
    simp
  | a :: as, ss => by
    show hearAll m (ss.map fun s => s.hear m a) as = _
    rw [hearAll_eq m as, List.map_map]
    rfl
theorem hears_append (m : Nat) (s : Sq) (a b : List Let) : s.hears m (a ++ b) = (s.hears m a).hears m b := by unfold Sq.hears; rw [List.foldl_append]
def waitOf (ks : List Kp) (n : Nat) : List Let := ((ks[n]?).map (·.wait)).getD []
theorem flat_congr {α β : Type} {f g : α → List β} : ∀ {l : List α}, (∀ a ∈ l, f a = g a) → l.flatMap f = l.flatMap g
  | [], _ => rfl
  | a :: r, h => by rw [List.flatMap_cons, List.flatMap_cons, h a (by simp), flat_congr fun b hb => h b (List.mem_cons_of_mem _ hb)]
theorem drain_eq (m : Nat) : ∀ (up : List Nat) (ks : List Kp) (ss : List Sq), up.Nodup → (∀ n ∈ up, n < ks.length) →
    (drain m up (ks, ss)).2 = ss.map (fun s => s.hears m (up.flatMap (waitOf ks))) ∧ (drain m up (ks, ss)).1.length = ks.length ∧
    ∀ n, (drain m up (ks, ss)).1[n]? = if n ∈ up then (ks[n]?).map Kp.flush else ks[n]?
  | [], ks, ss, _, _ => ⟨by show ss = ss.map fun s => s; simp, rfl, fun n => by simp [drain]⟩
  | i :: up, ks, ss, hn, hl => by
    rw [List.nodup_cons] at hn
    have hil : i < ks.length := hl i (by simp)
    have hi : ks[i]? = some ks[i] := List.getElem?_eq_getElem hil
    have e1 : drain m (i :: up) (ks, ss) = drain m up (ks.set i (ks[i]).flush, hearAll m ss (ks[i]).wait) := by
      show drain m up (drain1 m (ks, ss) i) = _
      unfold drain1
      rw [show (ks, ss).1[i]? = some ks[i] from hi]
    have ew : ∀ n ∈ up, waitOf (ks.set i (ks[i]).flush) n = waitOf ks n := fun n hm => by
      have hne : i ≠ n := fun z => hn.1 (by rw [z]; exact hm)
      unfold waitOf
      rw [List.getElem?_set_ne hne]
    obtain ⟨h1, h2, h3⟩ := drain_eq m up (ks.set i (ks[i]).flush) (hearAll m ss (ks[i]).wait) hn.2 fun n hm => by rw [List.length_set]; exact hl n (List.mem_cons_of_mem _ hm)
    rw [e1]
    refine ⟨?_, by rw [h2, List.length_set], fun n => ?_⟩
    · rw [h1, hearAll_eq, List.map_map]
      refine List.map_congr_left fun s _ => ?_
      show (s.hears m (ks[i]).wait).hears m (up.flatMap (waitOf (ks.set i (ks[i]).flush))) = s.hears m ((i :: up).flatMap (waitOf ks))
      rw [List.flatMap_cons, hears_append]
      have : up.flatMap (waitOf (ks.set i (ks[i]).flush)) = up.flatMap (waitOf ks) := flat_congr ew
      rw [this]
      have : waitOf ks i = (ks[i]).wait := by unfold waitOf; rw [hi]; rfl
      rw [this]
    · rw [h3]
      by_cases c : n = i
      · subst c
        rw [if_neg hn.1, if_pos (by simp), List.getElem?_set_self (hl n (by simp)), hi]
        rfl
      · rw [List.getElem?_set_ne (fun z => c z.symm)]
        by_cases d : n ∈ up
        · rw [if_pos d, if_pos (List.mem_cons_of_mem _ d)]
        · rw [if_neg d, if_neg (by simp [c, d])]
theorem onK_len (ks : List Kp) (n : Nat) (f : Kp → Kp) : (onK ks n f).length = ks.length := by
  unfold onK
  split
  · rw [List.length_set]
  · rfl
theorem onK_ne {ks : List Kp} {n i : Nat} {f : Kp → Kp} (h : i ≠ n) : (onK ks n f)[i]? = ks[i]? := by
  unfold onK
  split
  · rw [List.getElem?_set_ne (fun z => h z.symm)]
  · rfl
theorem onK_at {ks : List Kp} {n : Nat} {f : Kp → Kp} : (onK ks n f)[n]? = (ks[n]?).map f := by
  cases h : ks[n]? with
  | none =>
    unfold onK
    rw [h]
    exact h
  | some k =>
    rw [onK_some h, List.getElem?_set_self (List.getElem?_eq_some_iff.mp h).1]
    rfl
theorem giveAll_len (up : List Nat) : ∀ (ls : List Let) (ks : List Kp), (giveAll up ks ls).length = ks.length
  | [], _ => rfl
  | l :: ls, ks => by
    rw [giveAll_cons, giveAll_len up ls]
    split
    · rw [onK_len]
    · rfl
theorem giveAll_not (up : List Nat) {n : Nat} : ∀ (ls : List Let) (ks : List Kp), (∀ l ∈ ls, l.num = n → n ∉ up) → (giveAll up ks ls)[n]? = ks[n]?
  | [], _, _ => rfl
  | l :: ls, ks, h => by
    rw [giveAll_cons, giveAll_not up ls _ fun b hb => h b (List.mem_cons_of_mem _ hb)]
    split
    · rename_i c
      rw [onK_ne]
      intro z
      exact h l (by simp) z.symm (z ▸ c)
    · rfl
theorem giveAll_at (up : List Nat) {n : Nat} {l : Let} (hu : n ∈ up) (hl : l.num = n) : ∀ (ls : List Let) (ks : List Kp), (ls.map Let.num).Nodup → l ∈ ls → (giveAll up ks ls)[n]? = (ks[n]?).map fun k => k.handle n l
  | [], _, _, h => by simp at h
  | b :: ls, ks, hn, h => by
    rw [List.map_cons, List.nodup_cons] at hn
    rw [giveAll_cons]
    rcases List.mem_cons.mp h with e | h
    · subst e
      subst hl
      rw [giveAll_not up ls _ fun c hc z => absurd (List.mem_map.mpr ⟨c, hc, z⟩) hn.1, if_pos hu]
      exact onK_at
    · have hb : b.num ≠ n := fun z => hn.1 (List.mem_map.mpr ⟨l, h, hl.trans z.symm⟩)
      rw [giveAll_at up hu hl ls _ hn.2 h]
      split
      · rw [onK_ne (fun z => hb z.symm)]
      · rfl
theorem nums_sub {f : Nat → Option Let} (hf : ∀ n l, f n = some l → l.num = n) : ∀ l : List Nat, ((l.filterMap f).map Let.num).Sublist l
  | [] => by simp
  | n :: r => by
    cases h : f n with
    | none =>
      rw [List.filterMap_cons_none h]
      exact (nums_sub hf r).cons _
    | some b =>
      rw [List.filterMap_cons_some h, List.map_cons, hf n b h]
      exact (nums_sub hf r).cons₂ _
theorem send_nodup (m : Nat) (s : Sq) : ((s.toSend m).map Let.num).Nodup := by
  unfold Sq.toSend
  split
  · rw [List.map_map]
    have : (Let.num ∘ Let.ask s.ep) = id := by funext n; rfl
    rw [this, List.map_id]
    exact (List.filter_sublist).nodup List.nodup_range
  · refine (nums_sub (f := fun n => (s.row[s.taken.getD n 0]?).map (.write s.ep n (s.taken.getD n 0))) (fun n l h => ?_) (List.range m)).nodup List.nodup_range
    obtain ⟨x, _, e⟩ := Option.map_eq_some_iff.mp h
    rw [← e]
    rfl
  · simp

/-! ### hearing -/
theorem hear_other {m : Nat} {s : Sq} {l : Let} (h : l.ep ≠ s.ep) : s.hear m l = s := by unfold Sq.hear; rw [if_pos (.inl h)]
theorem hear_stopped {m : Nat} {s : Sq} {l : Let} (h : s.stand = .stopped) : s.hear m l = s := by unfold Sq.hear; rw [if_pos (.inr h)]
theorem hear_own {m : Nat} {s : Sq} {l : Let} (h : l.ep = s.ep) (h2 : s.stand ≠ .stopped) : s.hear m l = s.hearOwn m l := by
  unfold Sq.hear
  rw [if_neg]
  rintro (z | z)
  · exact z h
  · exact h2 z
theorem hears_cons (m : Nat) (s : Sq) (a : Let) (r : List Let) : s.hears m (a :: r) = (s.hear m a).hears m r := rfl
theorem hears_other {m : Nat} {s : Sq} : ∀ {as : List Let}, (∀ a ∈ as, a.ep ≠ s.ep) → s.hears m as = s
  | [], _ => rfl
  | a :: r, h => by
    rw [hears_cons, hear_other (h a (by simp))]
    exact hears_other fun b hb => h b (List.mem_cons_of_mem _ hb)
theorem hears_stopped {m : Nat} {s : Sq} (h : s.stand = .stopped) : ∀ {as : List Let}, s.hears m as = s
  | [] => rfl
  | a :: r => by
    rw [hears_cons, hear_stopped h]
    exact hears_stopped h
theorem hears_ep (m : Nat) : ∀ (as : List Let) (s : Sq), (s.hears m as).ep = s.ep
  | [], _ => rfl
  | a :: r, s => by rw [hears_cons, hears_ep m r, hear_ep]
/-- one that asks hears only answers to its asking -/
theorem hears_told {m : Nat} : ∀ (as : List Let) (s : Sq), (∀ a ∈ as, a.ep = s.ep → (∃ n r, a = .told s.ep n r) ∨ a.down = true) → s.stand ≠ .stopped →
    (s.hears m as).stand ≠ .stopped ∧ (s.hears m as).taken = s.taken ∧
    ((s.hears m as).stand = .asking → s.stand = .asking ∧ (∀ n, n ∈ s.rows.map (·.1) → n ∈ (s.hears m as).rows.map (·.1)) ∧ ∀ n r, Let.told s.ep n r ∈ as → n ∈ (s.hears m as).rows.map (·.1))
  | [], s, _, hs => ⟨hs, rfl, fun h => ⟨h, fun _ h => h, fun n r h => by simp at h⟩⟩
  | a :: as, s, h, hs => by
    rw [hears_cons]
    have ep1 : (s.hear m a).ep = s.ep := hear_ep m s a
    have key : (s.hear m a).stand ≠ .stopped ∧ (s.hear m a).taken = s.taken ∧ ((s.hear m a).stand = .asking → s.stand = .asking ∧ (∀ n, n ∈ s.rows.map (·.1) → n ∈ (s.hear m a).rows.map (·.1)) ∧
        ∀ n r, a = .told s.ep n r → n ∈ (s.hear m a).rows.map (·.1)) := by
      by_cases c : a.ep = s.ep
      · rcases h a (by simp) c with ⟨n, r, e⟩ | hd
        rotate_left
        · rw [hear_own c hs]
          cases a with
          | ask e' n' => exact ⟨hs, rfl, fun z => ⟨z, fun _ h => h, fun n r e => nomatch e⟩⟩
          | write e' n' p x => exact ⟨hs, rfl, fun z => ⟨z, fun _ h => h, fun n r e => nomatch e⟩⟩
          | refused e' n' q => exact nomatch hd
          | told e' n' r => exact nomatch hd
          | taken e' n' p => exact nomatch hd
        subst e
        rw [hear_own rfl hs]
        simp only [Sq.hearOwn]
        by_cases ca : s.stand = .asking
        · rw [if_pos ca]
          split
          · exact ⟨fun z => Stand.noConfusion z, rfl, fun z => Stand.noConfusion z⟩
          · refine ⟨hs, rfl, fun _ => ⟨ca, fun n' h' => putR_keep h', fun n' r' e => ?_⟩⟩
            cases e
            exact putR_key _ _ _
        · rw [if_neg ca]
          exact ⟨hs, rfl, fun z => absurd z ca⟩
      · rw [hear_other c]
        exact ⟨hs, rfl, fun z => ⟨z, fun _ h => h, fun n r e => absurd (by rw [e]; rfl) c⟩⟩
    obtain ⟨k1, k2, k3⟩ := key
    obtain ⟨i1, i2, i3⟩ := hears_told as (s.hear m a) (fun b hb e => by
      rw [ep1] at e ⊢
      exact h b (List.mem_cons_of_mem _ hb) e) k1
    refine ⟨i1, i2.trans k2, fun z => ?_⟩
    obtain ⟨j1, j2, j3⟩ := i3 z
    obtain ⟨l1, l2, l3⟩ := k3 j1
    refine ⟨l1, fun n hn => j2 n (l2 n hn), fun n r hm => ?_⟩
    rcases List.mem_cons.mp hm with e | hm
    · exact j2 n (l3 n r e.symm)
    · exact j3 n r (by rw [ep1]; exact hm)

/-! ### the greatest takes over -/
structure Up (m : Nat) (up : List Nat) : Prop where
  nd : up.Nodup
  lt : ∀ n ∈ up, n < m
  many : most m ≤ up.length

/-- keepers that are up know the epoch e0, and have nothing loose, nothing waiting -/
def Clean (up : List Nat) (e0 : Int) (ks : List Kp) : Prop := ∀ n ∈ up, ∃ k, ks[n]? = some k ∧ k.kn.ep = e0 ∧ k.loose = [] ∧ k.wait = []

theorem takes_over {m : Nat} {ks : List Kp} {ss : List Sq} {ls : List Let} {up : List Nat} {j : Nat} {e0 : Int} (I : Inv m ks ss ls) (U : Up m up) (hj : ss[j]? = some (fresh m e0)) (hmax : ∀ (i : Nat) s, ss[i]? = some s → i ≠ j → s.ep < e0) :
    ∃ L, (exch m j up ks ss).2[j]? = some L ∧ L.ep = e0 ∧ L.stand = .leading ∧ L.taken = List.replicate m 0 ∧ Clean up e0 (exch m j up ks ss).1 ∧ (exch m j up ks ss).2.length = ss.length ∧
      ∀ (i : Nat) s, (exch m j up ks ss).2[i]? = some s → i ≠ j → s.ep < e0 := by
  have hs : fresh m e0 ∈ ss := List.mem_of_getElem? hj
  have le0 : ∀ s ∈ ss, s.ep ≤ e0 := fun s h => by
    obtain ⟨i, hi⟩ := List.getElem?_of_mem h
    by_cases c : i = j
    · subst c
      rw [hj] at hi
      cases hi
      exact Int.le_refl _
    · have := hmax i s hi c
      omega
  -- the keepers behind the asks
  have sok := fun l hl => send_ok I hs l hl
  obtain ⟨a1, I1⟩ := I.giveAll (up := up) (as := (fresh m e0).toSend m) fun l hl => (sok l hl).1
  have ask : ∀ n ∈ up, Let.ask e0 n ∈ (fresh m e0).toSend m := fun n hn => by
    show Let.ask e0 n ∈ ((List.range m).filter fun n => (getR [] n).isNone).map (Let.ask e0)
    exact List.mem_map.mpr ⟨n, List.mem_filter.mpr ⟨List.mem_range.mpr (U.lt n hn), rfl⟩, rfl⟩
  have at1 : ∀ n ∈ up, ∃ k, ks[n]? = some k ∧ (giveAll up ks ((fresh m e0).toSend m))[n]? = some (k.handle n (.ask e0 n)) ∧ (k.handle n (.ask e0 n)).kn.ep = e0 ∧ (k.handle n (.ask e0 n)).wait = k.wait ++ [.told e0 n k.kn.row] := fun n hn => by
    have hlt : n < ks.length := by rw [I.klen]; exact U.lt n hn
    have hk : ks[n]? = some ks[n] := List.getElem?_eq_getElem hlt
    refine ⟨_, hk, ?_, ?_⟩
    · rw [giveAll_at up hn rfl _ ks (send_nodup m _) (ask n hn), hk]
      rfl
    · have hle : ks[n].kn.ep ≤ e0 := by
        have ok := I.kp _ (List.mem_of_getElem? hk)
        rcases (knOf_ep ks[n].hist).2.1 with z | ⟨r, hr, z⟩
        · have z' : ks[n].kn.ep = -1 := z
          have h0 : 0 ≤ e0 := (I.sq _ hs).nn
          omega
        · obtain ⟨s2, hs2, e2⟩ := ok.has r hr
          have z' : r.ep = ks[n].kn.ep := z
          have := le0 s2 hs2
          omega
      have c : ¬ e0 < ks[n].kn.ep := by omega
      simp only [Kp.handle, if_neg c]
      refine ⟨?_, by trivial⟩
      by_cases d : ks[n].kn.ep < e0
      · rw [if_pos d]
        show (knOf (ks[n].recs ++ (ks[n].loose ++ [Rec.prom e0]))).ep = e0
        rw [← List.append_assoc, knOf_snoc]
        show (if e0 > (knOf (ks[n].recs ++ ks[n].loose)).ep then e0 else (knOf (ks[n].recs ++ ks[n].loose)).ep) = e0
        rw [if_pos (show e0 > (knOf (ks[n].recs ++ ks[n].loose)).ep from d)]
      · rw [if_neg d]
        show ks[n].kn.ep = e0
        omega
  have len1 := giveAll_len up ((fresh m e0).toSend m) ks
  -- what is heard
  obtain ⟨d1, d2, d3⟩ := drain_eq m up (giveAll up ks ((fresh m e0).toSend m)) ss U.nd fun n hn => by rw [len1, I.klen]; exact U.lt n hn
  have ex : exch m j up ks ss = drain m up (giveAll up ks ((fresh m e0).toSend m), ss) := by
    unfold exch
    rw [hj]
  obtain ⟨_, I2⟩ := I.exch (j := j) (up := up)
  rw [ex] at I2 ⊢
  have told : ∀ a ∈ up.flatMap (waitOf (giveAll up ks ((fresh m e0).toSend m))), a.ep = e0 → (∃ n r, a = .told e0 n r) ∨ a.down = true := fun a ha e => by
    obtain ⟨n, hn, hw⟩ := List.mem_flatMap.mp ha
    obtain ⟨k, hk, hk1, _, hw1⟩ := at1 n hn
    unfold waitOf at hw
    rw [hk1] at hw
    have hw' : a ∈ k.wait ++ [.told e0 n k.kn.row] := by
      rw [← hw1]
      exact hw
    rcases List.mem_append.mp hw' with h | h
    · have lo := I.wait k (List.mem_of_getElem? hk) a h
      cases a with
      | ask e' n' => exact .inr rfl
      | write e' n' p x => exact .inr rfl
      | refused e' n' q =>
        obtain ⟨_, s, hs2, l2⟩ := lo
        have := le0 s hs2
        have e' : e' = e0 := e
        omega
      | told e' n' r =>
        have e' : e' = e0 := e
        subst e'
        exact .inl ⟨n', r, rfl⟩
      | taken e' n' p =>
        obtain ⟨_, s, hs2, e2, l2⟩ := lo
        have e' : e' = e0 := e
        have := ep_inj I.eps s hs2 _ hs (e2.trans e')
        subst this
        exact absurd l2 (Nat.not_lt_zero _)
    · exact .inl ⟨n, _, List.mem_singleton.mp h⟩
  obtain ⟨t1, t2, t3⟩ := hears_told (m := m) _ (fresh m e0) told (fun z => Stand.noConfusion z)
  have hL : (drain m up (giveAll up ks ((fresh m e0).toSend m), ss)).2[j]? = some ((fresh m e0).hears m (up.flatMap (waitOf (giveAll up ks ((fresh m e0).toSend m))))) := by
    rw [d1, List.getElem?_map, hj]
    rfl
  refine ⟨_, hL, hears_ep m _ _, ?_, t2, fun n hn => ?_, by rw [d1, List.length_map], fun i s hi hne => ?_⟩
  · cases hst : ((fresh m e0).hears m (up.flatMap (waitOf (giveAll up ks ((fresh m e0).toSend m))))).stand with
    | leading => rfl
    | stopped => exact absurd hst t1
    | asking =>
      obtain ⟨_, _, keys⟩ := t3 hst
      have ok := I2.sq _ (List.mem_of_getElem? hL)
      have lt := (ok.ask hst).2
      have sub : up ⊆ ((fresh m e0).hears m (up.flatMap (waitOf (giveAll up ks ((fresh m e0).toSend m))))).rows.map (·.1) := List.subset_def.mpr fun {n} hn => by
        obtain ⟨k, hk, hk1, _, hw1⟩ := at1 n hn
        refine keys n k.kn.row (List.mem_flatMap.mpr ⟨n, hn, ?_⟩)
        unfold waitOf
        rw [hk1]
        show _ ∈ (k.handle n (.ask e0 n)).wait
        rw [hw1]
        simp [fresh]
      have := U.nd.length_le_of_subset sub
      rw [List.length_map] at this
      have := U.many
      omega
  · obtain ⟨k, hk, hk1, he1, _⟩ := at1 n hn
    refine ⟨(k.handle n (.ask e0 n)).flush, by rw [d3 n, if_pos hn, hk1]; rfl, ?_, rfl, rfl⟩
    have : (k.handle n (.ask e0 n)).flush.kn = (k.handle n (.ask e0 n)).kn := by unfold Kp.kn; simp [Kp.flush, Kp.hist]
    rw [this]
    exact he1
  · rw [d1, List.getElem?_map] at hi
    obtain ⟨s0, h0, e⟩ := Option.map_eq_some_iff.mp hi
    rw [← e, hears_ep]
    exact hmax i s0 h0 hne
end K41
set_option linter.all false
/-! K41D: each further exchange settles an entry; what is settled is the row; elder leaders stop. -/
namespace K41

/-- behind t exchanges of the leader at j (row R, epoch e0) -/
structure Round (m : Nat) (up : List Nat) (j : Nat) (e0 : Int) (R : List Ent) (t : Nat) (ks : List Kp) (ss : List Sq) : Prop where
  lead : ∃ L, ss[j]? = some L ∧ L.ep = e0 ∧ L.stand = .leading ∧ L.row = R ∧ (∀ n ∈ up, L.taken[n]? = some t)
  low : ∀ (i : Nat) s, ss[i]? = some s → i ≠ j → s.ep < e0
  keep : ∀ n ∈ up, ∃ k, ks[n]? = some k ∧ k.kn.ep = e0 ∧ k.loose = [] ∧ k.wait = [] ∧ ∀ i, i < t → ∃ x, R[i]? = some x ∧ k.kn.row[i]? = some (e0, x)

theorem Round.start {m up j e0 ks ss} {L : Sq} (U : Up m up) (hL : ss[j]? = some L) (he : L.ep = e0) (hst : L.stand = .leading) (ht : L.taken = List.replicate m 0) (C : Clean up e0 ks)
    (hmax : ∀ (i : Nat) s, ss[i]? = some s → i ≠ j → s.ep < e0) : Round m up j e0 L.row 0 ks ss := by
  refine ⟨⟨L, hL, he, hst, rfl, fun n hn => ?_⟩, hmax, fun n hn => ?_⟩
  · rw [ht, List.getElem?_replicate, if_pos (U.lt n hn)]
  · obtain ⟨k, h1, h2, h3, h4⟩ := C n hn
    exact ⟨k, h1, h2, h3, h4, fun i hi => absurd hi (Nat.not_lt_zero _)⟩
theorem Round.add {m up j e0 R t ks ss} (h : Round m up j e0 R t ks ss) {L : Sq} (hL : ss[j]? = some L) (x : Ent) : Round m up j e0 (R ++ [x]) t ks (ss.set j (L.add x)) := by
  obtain ⟨⟨L', h1, h2, h3, h4, h5⟩, hlow, hk⟩ := h
  rw [hL] at h1
  cases h1
  have hlt := (List.getElem?_eq_some_iff.mp hL).1
  refine ⟨⟨L.add x, List.getElem?_set_self hlt, h2, h3, by show L.row ++ [x] = R ++ [x]; rw [h4], h5⟩, fun i s hi hne => ?_, fun n hn => ?_⟩
  · rw [List.getElem?_set_ne (fun z => hne z.symm)] at hi
    exact hlow i s hi hne
  · obtain ⟨k, k1, k2, k3, k4, k5⟩ := hk n hn
    refine ⟨k, k1, k2, k3, k4, fun i hi => ?_⟩
    obtain ⟨y, y1, y2⟩ := k5 i hi
    exact ⟨y, by rw [List.getElem?_append_left (List.getElem?_eq_some_iff.mp y1).1]; exact y1, y2⟩

theorem hears_taken {m : Nat} {e0 : Int} {t : Nat} : ∀ (up : List Nat) (s : Sq), up.Nodup → s.ep = e0 → s.stand = .leading → (∀ n ∈ up, s.taken[n]? = some t) →
    ∃ tk, s.hears m (up.map fun n => .taken e0 n t) = { s with taken := tk } ∧ (∀ n ∈ up, tk[n]? = some (t + 1)) ∧ ∀ n, n ∉ up → tk[n]? = s.taken[n]?
  | [], s, _, _, _, _ => ⟨s.taken, rfl, fun n h => by simp at h, fun _ _ => rfl⟩
  | i :: up, s, hn, he, hst, ht => by
    rw [List.nodup_cons] at hn
    have hi := ht i (by simp)
    have hlt := (List.getElem?_eq_some_iff.mp hi).1
    have e1 : s.hear m (.taken e0 i t) = { s with taken := s.taken.set i (t + 1) } := by
      rw [hear_own (show (Let.taken e0 i t).ep = s.ep from he.symm) (by rw [hst]; exact fun z => Stand.noConfusion z)]
      simp only [Sq.hearOwn]
      rw [if_pos ⟨hst, hi⟩]
    obtain ⟨tk, h1, h2, h3⟩ := hears_taken (m := m) up { s with taken := s.taken.set i (t + 1) } hn.2 he hst fun n hm => by
      have hne : i ≠ n := fun z => hn.1 (by rw [z]; exact hm)
      show (s.taken.set i (t + 1))[n]? = some t
      rw [List.getElem?_set_ne hne]
      exact ht n (List.mem_cons_of_mem _ hm)
    refine ⟨tk, ?_, fun n hm => ?_, fun n hm => ?_⟩
    · rw [List.map_cons, hears_cons, e1, h1]
    · rcases List.mem_cons.mp hm with rfl | hm
      · rw [h3 n hn.1]
        exact List.getElem?_set_self hlt
      · exact h2 n hm
    · have h4 : i ≠ n := fun z => hm (by rw [z]; simp)
      rw [h3 n (fun z => hm (List.mem_cons_of_mem _ z))]
      exact List.getElem?_set_ne h4

theorem map_single {α β : Type} (f : α → β) : ∀ l : List α, l.flatMap (fun a => [f a]) = l.map f
  | [] => rfl
  | a :: r => by rw [List.flatMap_cons, map_single f r]; rfl

theorem Round.step {m up j e0 R t} {ks : List Kp} {ss : List Sq} {ls : List Let} (I : Inv m ks ss ls) (U : Up m up) (h : Round m up j e0 R t ks ss) (htR : t < R.length) :
    Round m up j e0 R (t + 1) (exch m j up ks ss).1 (exch m j up ks ss).2 ∧ (∀ i, i ≠ j → (exch m j up ks ss).2[i]? = ss[i]?) ∧ (exch m j up ks ss).2.length = ss.length := by
  obtain ⟨⟨L, hL, he, hst, hR, htk⟩, hlow, hkeep⟩ := h
  have hs : L ∈ ss := List.mem_of_getElem? hL
  obtain ⟨x, hx⟩ : ∃ x, R[t]? = some x := ⟨R[t], List.getElem?_eq_getElem htR⟩
  have sent : ∀ n ∈ up, Let.write e0 n t x ∈ L.toSend m := fun n hn => by
    unfold Sq.toSend
    rw [hst]
    refine List.mem_filterMap.mpr ⟨n, List.mem_range.mpr (U.lt n hn), ?_⟩
    have : L.taken.getD n 0 = t := by rw [List.getD_eq_getElem?_getD, htk n hn]; rfl
    rw [this, hR, hx, he]
    rfl
  -- the keepers behind the writes
  have at1 : ∀ n ∈ up, ∃ k k1, ks[n]? = some k ∧ (giveAll up ks (L.toSend m))[n]? = some k1 ∧ k1.kn.ep = e0 ∧ k1.wait = [.taken e0 n t] ∧
      ∀ i, i < t + 1 → ∃ x, R[i]? = some x ∧ k1.kn.row[i]? = some (e0, x) := fun n hn => by
    obtain ⟨k, h1, h2, h3, h4, h5⟩ := hkeep n hn
    refine ⟨k, k.handle n (.write e0 n t x), h1, by rw [giveAll_at up hn rfl _ ks (send_nodup m _) (sent n hn), h1]; rfl, ?_⟩
    have ne : ¬ e0 < k.kn.ep := by omega
    have hlen : t ≤ k.kn.row.length := by
      by_cases c : t = 0
      · omega
      · obtain ⟨y, _, y2⟩ := h5 (t - 1) (by omega)
        have := (List.getElem?_eq_some_iff.mp y2).1
        omega
    have hf : fits k.kn e0 t = true := by
      unfold fits
      rw [Bool.and_eq_true]
      refine ⟨decide_eq_true hlen, ?_⟩
      by_cases c : t = 0
      · rw [decide_eq_true c]
        rfl
      · obtain ⟨y, _, y2⟩ := h5 (t - 1) (by omega)
        rw [y2, Bool.or_eq_true]
        exact .inr (decide_eq_true rfl)
    simp only [Kp.handle, if_neg ne, if_pos hf]
    by_cases d : t = k.kn.row.length ∨ k.kn.row[t]? ≠ some (e0, x)
    · rw [if_pos d]
      have ek : (Kp.mk k.recs (k.loose ++ [Rec.take e0 t x]) (k.wait ++ [Let.taken e0 n t])).kn = k.kn.put (.take e0 t x) := by
        unfold Kp.kn Kp.hist
        rw [← List.append_assoc, knOf_snoc]
      obtain ⟨r1, r2⟩ := put_row_take (q := k.kn) (e := e0) (x := x) hlen
      rw [ek]
      refine ⟨?_, by rw [h4]; rfl, fun i hi => ?_⟩
      · show (if e0 > k.kn.ep then e0 else k.kn.ep) = e0
        rw [if_neg (by omega)]
        exact h2
      · by_cases c : i = t
        · subst c
          exact ⟨x, hx, r1⟩
        · obtain ⟨y, y1, y2⟩ := h5 i (by omega)
          exact ⟨y, y1, by rw [r2 i c]; exact y2⟩
    · rw [if_neg d]
      refine ⟨h2, by rw [h4]; rfl, fun i hi => ?_⟩
      by_cases c : i = t
      · subst c
        refine ⟨x, hx, Classical.byContradiction fun z => d (.inr z)⟩
      · exact h5 i (by omega)
  have len1 := giveAll_len up (L.toSend m) ks
  obtain ⟨d1, d2, d3⟩ := drain_eq m up (giveAll up ks (L.toSend m)) ss U.nd fun n hn => by rw [len1, I.klen]; exact U.lt n hn
  have ex : exch m j up ks ss = drain m up (giveAll up ks (L.toSend m), ss) := by
    unfold exch
    rw [hL]
  rw [ex]
  have eW : up.flatMap (waitOf (giveAll up ks (L.toSend m))) = up.map fun n => Let.taken e0 n t := by
    rw [← map_single]
    refine flat_congr fun n hn => ?_
    obtain ⟨k, k1, _, h2, _, h4, _⟩ := at1 n hn
    unfold waitOf
    rw [h2]
    exact h4
  rw [eW] at d1
  obtain ⟨tk, t1, t2, t3⟩ := hears_taken (m := m) up L U.nd he hst htk
  have hL2 : (drain m up (giveAll up ks (L.toSend m), ss)).2[j]? = some { L with taken := tk } := by
    rw [d1, List.getElem?_map, hL]
    show some (L.hears m _) = _
    rw [t1]
  have hoth : ∀ i, i ≠ j → (drain m up (giveAll up ks (L.toSend m), ss)).2[i]? = ss[i]? := fun i hi => by
    rw [d1, List.getElem?_map]
    cases hc : ss[i]? with
    | none => rfl
    | some s =>
      have hl := hlow i s hc hi
      show some (s.hears m _) = some s
      rw [hears_other]
      intro a ha z
      obtain ⟨n, _, e⟩ := List.mem_map.mp ha
      rw [← e] at z
      have z' : e0 = s.ep := z
      omega
  refine ⟨⟨⟨_, hL2, he, hst, hR, t2⟩, fun i s hi hne => ?_, fun n hn => ?_⟩, hoth, by rw [d1, List.length_map]⟩
  · rw [hoth i hne] at hi
    exact hlow i s hi hne
  · obtain ⟨k, k1, h1, h2, h3, h4, h5⟩ := at1 n hn
    have : k1.flush.kn = k1.kn := by unfold Kp.kn; simp [Kp.flush, Kp.hist]
    exact ⟨k1.flush, by rw [d3 n, if_pos hn, h2]; rfl, by rw [this]; exact h3, rfl, rfl, by rw [this]; exact h5⟩

/-! ### what is settled -/
def SettledRow (m : Nat) (ks : List Kp) (r : List Ent) : Prop :=
  (∀ i x, r[i]? = some x → ∃ e, most m ≤ takersN ks e i x) ∧ ∀ e x, ¬ most m ≤ takersN ks e r.length x

theorem chosen_wrote {m ks ss ls} (I : Inv m ks ss ls) {e p x} (C : most m ≤ takersN ks e p x) : Wrote ss e p x := by
  unfold takersN at C
  cases h : ks.filter (fun k => decide (Rec.take e p x ∈ k.recs)) with
  | nil =>
    rw [h] at C
    simp [most] at C
  | cons k r =>
    have hk : k ∈ ks.filter (fun k => decide (Rec.take e p x ∈ k.recs)) := by rw [h]; simp
    obtain ⟨h1, h2⟩ := List.mem_filter.mp hk
    exact (I.kp k h1).wrote e p x (List.mem_append_left _ (of_decide_eq_true h2))
theorem chosen_lead {m ks ss ls} (I : Inv m ks ss ls) {j e0} {L : Sq} (hL : ss[j]? = some L) (he : L.ep = e0) (hst : L.stand = .leading) (hlow : ∀ (i : Nat) s, ss[i]? = some s → i ≠ j → s.ep < e0) {e p x}
    (C : most m ≤ takersN ks e p x) : L.row[p]? = some x := by
  obtain ⟨s, hs, e1, _⟩ := chosen_wrote I C
  have hLm := List.mem_of_getElem? hL
  refine safe I C L.ep.toNat L hLm (Nat.le_refl _) ?_ ((I.sq L hLm).lead hst)
  obtain ⟨i, hi⟩ := List.getElem?_of_mem hs
  by_cases c : i = j
  · subst c
    rw [hL] at hi
    cases hi
    omega
  · have := hlow i s hi c
    omega
/-- what was settled ahead is in the new leader's row -/
theorem before_in {m ks ss ls ks0} (I : Inv m ks ss ls) {j e0} {L : Sq} (hL : ss[j]? = some L) (he : L.ep = e0) (hst : L.stand = .leading) (hlow : ∀ (i : Nat) s, ss[i]? = some s → i ≠ j → s.ep < e0)
    (hgrow : ∀ e p x, most m ≤ takersN ks0 e p x → most m ≤ takersN ks e p x) {r : List Ent} (hr : SettledRow m ks0 r) : L.row.take r.length = r := by
  refine List.ext_getElem? fun i => ?_
  by_cases c : i < r.length
  · rw [List.getElem?_take_of_lt c]
    have hi : r[i]? = some r[i] := List.getElem?_eq_getElem c
    rw [hi]
    obtain ⟨e, C⟩ := hr.1 i _ hi
    exact chosen_lead I hL he hst hlow (hgrow _ _ _ C)
  · rw [List.getElem?_eq_none (by simp; omega), List.getElem?_eq_none (by omega)]
/-- behind as many exchanges as it has entries all its row is settled, and nothing more -/
theorem settled_is {m up j e0 R} {ks : List Kp} {ss : List Sq} {ls : List Let} (I : Inv m ks ss ls) (U : Up m up) (h : Round m up j e0 R R.length ks ss) {r : List Ent} (hr : SettledRow m ks r) : r = R := by
  obtain ⟨⟨L, hL, he, hst, hR, htk⟩, hlow, hkeep⟩ := h
  have inR : ∀ e p x, most m ≤ takersN ks e p x → R[p]? = some x := fun e p x C => by
    rw [← hR]
    exact chosen_lead I hL he hst hlow C
  have ofR : ∀ i x, R[i]? = some x → most m ≤ takersN ks e0 i x := fun i x hx => by
    have hi : i < R.length := (List.getElem?_eq_some_iff.mp hx).1
    -- the places of the keepers that are up
    have hall : ∀ n ∈ up, ∃ k, ks[n]? = some k ∧ decide (Rec.take e0 i x ∈ k.recs) = true := fun n hn => by
      obtain ⟨k, k1, k2, k3, k4, k5⟩ := hkeep n hn
      obtain ⟨y, y1, y2⟩ := k5 i hi
      rw [hx] at y1
      cases y1
      have := (I.kp k (List.mem_of_getElem? k1)).back i _ y2
      refine ⟨k, k1, decide_eq_true ?_⟩
      unfold Kp.hist at this
      rw [k3, List.append_nil] at this
      exact this
    exact Nat.le_trans U.many (count_up (P := fun k : Kp => decide (Rec.take e0 i x ∈ k.recs)) U.nd hall)
  have hlen : r.length = R.length := by
    by_cases c : r.length < R.length
    · have hx : R[r.length]? = some R[r.length] := List.getElem?_eq_getElem c
      exact absurd (ofR _ _ hx) (hr.2 e0 _)
    · by_cases d : R.length < r.length
      · have hx : r[R.length]? = some r[R.length] := List.getElem?_eq_getElem d
        obtain ⟨e, C⟩ := hr.1 _ _ hx
        have := (List.getElem?_eq_some_iff.mp (inR _ _ _ C)).1
        omega
      · omega
  refine List.ext_getElem? fun i => ?_
  by_cases c : i < r.length
  · have hi : r[i]? = some r[i] := List.getElem?_eq_getElem c
    obtain ⟨e, C⟩ := hr.1 i _ hi
    rw [hi, inR _ _ _ C]
  · rw [List.getElem?_eq_none (by omega), List.getElem?_eq_none (by omega)]
where
  count_up {α : Type} {P : α → Bool} {l : List α} {up : List Nat} (hn : up.Nodup) (h : ∀ n ∈ up, ∃ k, l[n]? = some k ∧ P k = true) : up.length ≤ (l.filter P).length := by
    have e : ∀ l : List α, ((List.range l.length).filter fun n => (l[n]?).any P).length = (l.filter P).length := by
      refine rev_ind (by simp) fun l x ih => ?_
      rw [List.length_append, List.length_singleton, List.range_succ, List.filter_append, List.length_append, List.filter_append, List.length_append]
      have h1 : (List.range l.length).filter (fun n => ((l ++ [x])[n]?).any P) = (List.range l.length).filter fun n => (l[n]?).any P := by
        refine List.filter_congr fun n hm => ?_
        rw [List.getElem?_append_left (List.mem_range.mp hm)]
      rw [h1, ih]
      congr 1
      have h2 : ((l ++ [x])[l.length]?).any P = P x := by simp
      by_cases c : P x = true
      · rw [List.filter_cons_of_pos (by rw [h2]; exact c), List.filter_cons_of_pos c]
        rfl
      · rw [List.filter_cons_of_neg (by rw [h2]; exact c), List.filter_cons_of_neg c]
        rfl
    rw [← e l]
    refine hn.length_le_of_subset (List.subset_def.mpr fun {n} hm => ?_)
    obtain ⟨k, h1, h2⟩ := h n hm
    refine List.mem_filter.mpr ⟨List.mem_range.mpr (List.getElem?_eq_some_iff.mp h1).1, ?_⟩
    rw [h1]
    exact h2

/-! ### elder leaders -/
theorem toSend_all {m : Nat} {s : Sq} (hst : s.stand = .leading) (hlen : s.taken.length = m) (hle : ∀ t ∈ s.taken, t < s.row.length) {n : Nat} (hn : n < m) : ∃ p x, Let.write s.ep n p x ∈ s.toSend m := by
  have ht : s.taken[n]? = some (s.taken[n]'(by omega)) := List.getElem?_eq_getElem (by omega)
  have hlt := hle _ (List.mem_of_getElem? ht)
  have hg : s.taken.getD n 0 = s.taken[n]'(by omega) := by rw [List.getD_eq_getElem?_getD, ht]; rfl
  refine ⟨s.taken.getD n 0, s.row[s.taken.getD n 0]'(by rw [hg]; exact hlt), ?_⟩
  unfold Sq.toSend
  rw [hst]
  refine List.mem_filterMap.mpr ⟨n, List.mem_range.mpr hn, ?_⟩
  rw [List.getElem?_eq_getElem (by rw [hg]; exact hlt)]
  rfl
theorem flush_clean {k : Kp} (h1 : k.loose = []) (h2 : k.wait = []) : k.flush = k := by
  obtain ⟨a, b, c⟩ := k
  simp only at h1 h2
  subst h1 h2
  simp [Kp.flush, Kp.hist]
/-- a leader of a lesser epoch stops; nothing else changes -/
theorem old_stops {m up e0} {ks : List Kp} {ss : List Sq} {i : Nat} {s : Sq} (U : Up m up) (hks : ks.length = m) (C : Clean up e0 ks) (hi : ss[i]? = some s) (hst : s.stand = .leading) (hep : s.ep < e0) (hlen : s.taken.length = m)
    (hle : ∀ t ∈ s.taken, t < s.row.length) (huniq : ∀ (i' : Nat) s', ss[i']? = some s' → i' ≠ i → s'.ep ≠ s.ep) : exch m i up ks ss = (ks, ss.set i { s with stand := .stopped }) := by
  have sok : ∀ l ∈ s.toSend m, l.ep = s.ep ∧ l.num < m ∧ l.down = true := fun l hl => by
    unfold Sq.toSend at hl
    rw [hst] at hl
    obtain ⟨n, hn, e⟩ := List.mem_filterMap.mp hl
    obtain ⟨x, hx, e⟩ := Option.map_eq_some_iff.mp e
    subst e
    exact ⟨rfl, List.mem_range.mp hn, rfl⟩
  have at1 : ∀ n ∈ up, ∃ k, ks[n]? = some k ∧ (giveAll up ks (s.toSend m))[n]? = some { k with wait := [.refused s.ep n e0] } ∧ k.loose = [] ∧ k.wait = [] := fun n hn => by
    obtain ⟨k, k1, k2, k3, k4⟩ := C n hn
    obtain ⟨p, x, hm⟩ := toSend_all hst hlen hle (U.lt n hn)
    refine ⟨k, k1, ?_, k3, k4⟩
    rw [giveAll_at up hn rfl _ ks (send_nodup m _) hm, k1]
    show some (k.handle n (.write s.ep n p x)) = _
    have c : s.ep < k.kn.ep := by omega
    simp only [Kp.handle, if_pos c]
    rw [k4, k2]
    rfl
  have len1 := giveAll_len up (s.toSend m) ks
  obtain ⟨d1, d2, d3⟩ := drain_eq m up (giveAll up ks (s.toSend m)) ss U.nd fun n hn => by rw [len1, hks]; exact U.lt n hn
  have ex : exch m i up ks ss = drain m up (giveAll up ks (s.toSend m), ss) := by
    unfold exch
    rw [hi]
  rw [ex]
  have eW : up.flatMap (waitOf (giveAll up ks (s.toSend m))) = up.map fun n => Let.refused s.ep n e0 := by
    rw [← map_single]
    refine flat_congr fun n hn => ?_
    obtain ⟨k, _, h2, _⟩ := at1 n hn
    unfold waitOf
    rw [h2]
    rfl
  rw [eW] at d1
  refine Prod.ext ?_ ?_
  · refine List.ext_getElem? fun n => ?_
    rw [d3 n]
    by_cases c : n ∈ up
    · obtain ⟨k, h1, h2, h3, h4⟩ := at1 n c
      rw [if_pos c, h1, h2]
      show some (Kp.flush _) = some k
      have : ({ k with wait := [.refused s.ep n e0] } : Kp).flush = k.flush := rfl
      rw [this, flush_clean h3 h4]
    · rw [if_neg c, giveAll_not up _ ks]
      intro l hl e
      exact c
  · rw [d1]
    refine List.ext_getElem? fun q => ?_
    rw [List.getElem?_map]
    by_cases c : q = i
    · subst c
      rw [hi, List.getElem?_set_self (List.getElem?_eq_some_iff.mp hi).1]
      show some (s.hears m _) = _
      cases hu : up with
      | nil =>
        have := U.many
        rw [hu] at this
        simp [most] at this
      | cons n r =>
        rw [List.map_cons, hears_cons, hear_own rfl (by rw [hst]; exact fun z => Stand.noConfusion z)]
        simp only [Sq.hearOwn]
        rw [hears_stopped rfl]
    · rw [List.getElem?_set_ne (fun z => c z.symm)]
      cases hq : ss[q]? with
      | none => rfl
      | some s' =>
        show some (s'.hears m _) = some s'
        rw [hears_other]
        intro a ha z
        obtain ⟨n, _, e⟩ := List.mem_map.mp ha
        rw [← e] at z
        exact huniq q s' hq c z.symm
/-- a stopped one changes nothing -/
theorem stopped_still {m up e0} {ks : List Kp} {ss : List Sq} {i : Nat} {s : Sq} (U : Up m up) (hks : ks.length = m) (C : Clean up e0 ks) (hi : ss[i]? = some s) (hst : s.stand = .stopped) : exch m i up ks ss = (ks, ss) := by
  have es : s.toSend m = [] := by unfold Sq.toSend; rw [hst]
  obtain ⟨d1, d2, d3⟩ := drain_eq m up ks ss U.nd fun n hn => by rw [hks]; exact U.lt n hn
  have ex : exch m i up ks ss = drain m up (ks, ss) := by
    unfold exch
    rw [hi]
    show drain m up (giveAll up ks (s.toSend m), ss) = _
    rw [es]
    rfl
  rw [ex]
  have eW : up.flatMap (waitOf ks) = [] := by
    rw [List.flatMap_eq_nil_iff]
    intro n hn
    obtain ⟨k, k1, _, _, k4⟩ := C n hn
    unfold waitOf
    rw [k1]
    exact k4
  rw [eW] at d1
  refine Prod.ext ?_ ?_
  · refine List.ext_getElem? fun n => ?_
    rw [d3 n]
    by_cases c : n ∈ up
    · obtain ⟨k, h1, h2, h3, h4⟩ := C n c
      rw [if_pos c, h1]
      show some k.flush = some k
      rw [flush_clean h3 h4]
    · rw [if_neg c]
  · rw [d1]
    show ss.map (fun s => s) = ss
    simp
end K41
set_option linter.all false
/-! K41E: how large things grow; counts of what most took only grow; the middle count of a sorted row. -/
namespace K41

def Let.small (B : Nat) : Let → Prop
  | .told _ _ r => r.length ≤ B
  | _ => True
theorem Let.small.mono {B B' : Nat} {l : Let} (h : l.small B) (hb : B ≤ B') : l.small B' := by
  cases l with
  | told e n r => exact Nat.le_trans h hb
  | _ => trivial
structure KB (B : Nat) (k : Kp) : Prop where
  hist : k.recs.length + k.loose.length ≤ B
  wait : k.wait.length ≤ B
  small : ∀ l ∈ k.wait, l.small B
structure SB (B : Nat) (s : Sq) : Prop where
  row : s.row.length ≤ B
  rows : ∀ q ∈ s.rows, q.2.length ≤ B
structure Bd (B : Nat) (ks : List Kp) (ss : List Sq) (ls : List Let) : Prop where
  kp : ∀ k ∈ ks, KB B k
  sq : ∀ s ∈ ss, SB B s
  len : ls.length ≤ 70 * B
  small : ∀ l ∈ ls, l.small B
theorem KB.mono {B B' k} (h : KB B k) (hb : B ≤ B') : KB B' k := ⟨Nat.le_trans h.hist hb, Nat.le_trans h.wait hb, fun l hl => (h.small l hl).mono hb⟩
theorem SB.mono {B B' s} (h : SB B s) (hb : B ≤ B') : SB B' s := ⟨Nat.le_trans h.row hb, fun q hq => Nat.le_trans (h.rows q hq) hb⟩
theorem Bd.mono {B B' ks ss ls} (h : Bd B ks ss ls) (hb : B ≤ B') : Bd B' ks ss ls :=
  ⟨fun k hk => (h.kp k hk).mono hb, fun s hs => (h.sq s hs).mono hb, Nat.le_trans h.len (Nat.mul_le_mul_left _ hb), fun l hl => (h.small l hl).mono hb⟩
theorem KB.knlen {B k} (h : KB B k) : k.kn.row.length ≤ B := by
  have := knOf_len k.hist
  unfold Kp.hist at this
  rw [List.length_append] at this
  have := h.hist
  unfold Kp.kn Kp.hist
  omega
theorem KB.handle {B : Nat} {k : Kp} (h : KB B k) (i : Nat) (l : Let) : KB (B + 1) (k.handle i l) := by
  obtain ⟨h1, h2, h3⟩ := h
  have hk : k.kn.row.length ≤ B := KB.knlen ⟨h1, h2, h3⟩
  have one : ∀ (lo : List Rec) (a : Let), lo.length ≤ k.loose.length + 1 → a.small (B + 1) → KB (B + 1) ⟨k.recs, lo, k.wait ++ [a]⟩ := fun lo a hlo ha =>
    ⟨by show k.recs.length + lo.length ≤ B + 1; omega, by show (k.wait ++ [a]).length ≤ B + 1; simp; omega, fun b hb => by
      rcases List.mem_append.mp hb with hb | hb
      · exact (h3 b hb).mono (by omega)
      · rw [List.mem_singleton.mp hb]; exact ha⟩
  have same : KB (B + 1) k := KB.mono ⟨h1, h2, h3⟩ (by omega)
  cases l with
  | ask e n =>
    simp only [Kp.handle]
    split
    · exact one _ _ (by omega) trivial
    · refine one _ _ ?_ (Nat.le_trans hk (by omega))
      split <;> simp
  | write e n p x =>
    simp only [Kp.handle]
    split
    · exact one _ _ (by omega) trivial
    · split
      · refine one _ _ ?_ trivial
        split <;> simp
      · exact same
  | _ => exact same
theorem KB.flush {B : Nat} {k : Kp} (h : KB B k) : KB B k.flush :=
  ⟨by show (k.recs ++ k.loose).length + 0 ≤ B; rw [List.length_append]; exact h.hist, Nat.zero_le _, fun l hl => by simp [Kp.flush] at hl⟩
theorem SB.hear {B m : Nat} {s : Sq} {l : Let} (h : SB B s) (hl : l.small B) : SB B (s.hear m l) := by
  unfold Sq.hear
  split
  · exact h
  · cases l with
    | told e n r =>
      have nr : ∀ q ∈ putR s.rows n r, q.2.length ≤ B := fun q hq => by
        rcases putR_mem (n' := q.1) (r' := q.2) hq with ⟨_, e2⟩ | hq
        · rw [e2]; exact hl
        · exact h.rows _ hq
      simp only [Sq.hearOwn]
      split
      · split
        · refine ⟨?_, nr⟩
          show (newest (sortedRows m (putR s.rows n r))).length ≤ B
          rw [newest_len]
          refine longest_le fun r' hr' => ?_
          obtain ⟨n', hm⟩ := sorted_mem hr'
          exact nr _ hm
        · exact ⟨h.row, nr⟩
      · exact h
    | taken e n p =>
      simp only [Sq.hearOwn]
      split
      · exact ⟨h.row, h.rows⟩
      · exact h
    | refused e n k => exact ⟨h.row, h.rows⟩
    | _ => exact h
theorem Bd.setK {B ks ss ls} (h : Bd B ks ss ls) {n : Nat} {k : Kp} (hk : KB B k) : Bd B (ks.set n k) ss ls :=
  ⟨fun c hc => by
    rcases List.mem_or_eq_of_mem_set hc with z | z
    · exact h.kp c z
    · rw [z]; exact hk, h.sq, h.len, h.small⟩
theorem Bd.hear {B m ks ss ls} (h : Bd B ks ss ls) {l : Let} (hl : l.small B) : Bd B ks (ss.map fun s => s.hear m l) ls :=
  ⟨h.kp, fun c hc => by
    obtain ⟨s, hs, e⟩ := List.mem_map.mp hc
    rw [← e]
    exact (h.sq s hs).hear hl, h.len, h.small⟩
theorem Bd.hearAll {B m ks ls} : ∀ {as : List Let} {ss : List Sq}, Bd B ks ss ls → (∀ l ∈ as, l.small B) → Bd B ks (hearAll m ss as) ls
  | [], _, h, _ => h
  | a :: as, ss, h, hl => Bd.hearAll (as := as) (h.hear (hl a (by simp))) fun b hb => hl b (List.mem_cons_of_mem _ hb)
theorem Bd.give {B ks ss ls} (h : Bd B ks ss ls) (up : List Nat) (l : Let) : Bd (B + 1) (if l.num ∈ up then onK ks l.num (fun k => k.handle l.num l) else ks) ss ls := by
  split
  · cases hk : ks[l.num]? with
    | none =>
      unfold onK
      rw [hk]
      exact h.mono (by omega)
    | some k =>
      rw [onK_some hk]
      exact (h.mono (by omega)).setK ((h.kp k (List.mem_of_getElem? hk)).handle _ _)
  · exact h.mono (by omega)
theorem Bd.giveAll {ss ls} (up : List Nat) : ∀ {as : List Let} {B : Nat} {ks : List Kp}, Bd B ks ss ls → Bd (B + as.length) (giveAll up ks as) ss ls
  | [], _, _, h => h
  | a :: as, B, ks, h => by
    rw [giveAll_cons]
    have := Bd.giveAll up (as := as) (h.give up a)
    rw [List.length_cons]
    exact this.mono (by omega)
theorem Bd.drain1 {B m ks ss ls} (h : Bd B ks ss ls) (n : Nat) : Bd B (drain1 m (ks, ss) n).1 (drain1 m (ks, ss) n).2 ls := by
  unfold K41.drain1
  cases hk : ks[n]? with
  | none => exact h
  | some k =>
    have hb := h.kp k (List.mem_of_getElem? hk)
    exact (h.setK hb.flush).hearAll hb.small
theorem Bd.drain {B m ls} : ∀ {up : List Nat} {ks : List Kp} {ss : List Sq}, Bd B ks ss ls → Bd B (drain m up (ks, ss)).1 (drain m up (ks, ss)).2 ls
  | [], _, _, h => h
  | n :: up, ks, ss, h => Bd.drain (up := up) (h.drain1 n)
theorem send_len (m : Nat) (s : Sq) : (s.toSend m).length ≤ m := by
  unfold Sq.toSend
  split
  · rw [List.length_map]
    have := List.length_filter_le (fun n => (getR s.rows n).isNone) (List.range m)
    rw [List.length_range] at this
    exact this
  · have := List.length_filterMap_le (fun n => (s.row[s.taken.getD n 0]?).map (Let.write s.ep n (s.taken.getD n 0))) (List.range m)
    rw [List.length_range] at this
    exact this
  · exact Nat.zero_le _
theorem send_small {m : Nat} {s : Sq} {l : Let} (h : l ∈ s.toSend m) (B : Nat) : l.small B := by
  unfold Sq.toSend at h
  split at h
  · obtain ⟨n, _, e⟩ := List.mem_map.mp h
    rw [← e]
    trivial
  · obtain ⟨n, _, e⟩ := List.mem_filterMap.mp h
    obtain ⟨x, _, e⟩ := Option.map_eq_some_iff.mp e
    rw [← e]
    trivial
  · simp at h
theorem Bd.exch {B m j ls} {ks : List Kp} {ss : List Sq} (up : List Nat) (h : Bd B ks ss ls) : Bd (B + m) (exch m j up ks ss).1 (exch m j up ks ss).2 ls := by
  unfold K41.exch
  cases hs : ss[j]? with
  | none => exact h.mono (by omega)
  | some s =>
    have h1 := (h.giveAll up (as := s.toSend m)).mono (B' := B + m) (by have := send_len m s; omega)
    exact h1.drain
theorem Bd.add {B ks ss ls} (h : Bd B ks ss ls) {j : Nat} {s : Sq} (hj : ss[j]? = some s) (x : Ent) : Bd (B + 1) ks (ss.set j (s.add x)) ls :=
  ⟨fun k hk => (h.kp k hk).mono (by omega), fun c hc => by
    rcases List.mem_or_eq_of_mem_set hc with z | z
    · exact (h.sq c z).mono (by omega)
    · rw [z]
      have := h.sq s (List.mem_of_getElem? hj)
      exact ⟨by show (s.row ++ [x]).length ≤ B + 1; have := this.row; simp; omega, fun q hq => Nat.le_trans (this.rows q hq) (by omega)⟩, by have := h.len; omega, fun l hl => (h.small l hl).mono (by omega)⟩
theorem Bd.begin {B m ks ss ls} (h : Bd B ks ss ls) (e : Int) : Bd B ks (ss ++ [fresh m e]) ls :=
  ⟨h.kp, fun c hc => by
    rcases List.mem_append.mp hc with z | z
    · exact h.sq c z
    · rw [List.mem_singleton.mp z]
      exact ⟨Nat.zero_le _, fun q hq => by simp [fresh] at hq⟩, h.len, h.small⟩

/-! ### what most took stays -/
theorem filter_more {α : Type} {P : α → Bool} : ∀ {l l' : List α}, l.length = l'.length → (∀ (n : Nat) a b, l[n]? = some a → l'[n]? = some b → P a = true → P b = true) → (l.filter P).length ≤ (l'.filter P).length
  | [], _, _, _ => Nat.zero_le _
  | a :: l, [], h, _ => by simp at h
  | a :: l, b :: l', h, hp => by
    have ih := filter_more (l := l) (l' := l') (by simpa using h) fun n x y hx hy => hp (n + 1) x y hx hy
    by_cases c : P a = true
    · have d := hp 0 a b rfl rfl c
      rw [List.filter_cons_of_pos c, List.filter_cons_of_pos d]
      simp only [List.length_cons]
      omega
    · rw [List.filter_cons_of_neg c]
      by_cases d : P b = true
      · rw [List.filter_cons_of_pos d, List.length_cons]
        omega
      · rw [List.filter_cons_of_neg d]
        exact ih
def RecsIn (ks ks' : List Kp) : Prop := ks.length = ks'.length ∧ ∀ (n : Nat) (k k' : Kp), ks[n]? = some k → ks'[n]? = some k' → ∀ r ∈ k.recs, r ∈ k'.recs
theorem RecsIn.refl (ks : List Kp) : RecsIn ks ks := ⟨rfl, fun n k k' h h' r hr => by rw [h] at h'; cases h'; exact hr⟩
theorem RecsIn.trans {a b c : List Kp} (h : RecsIn a b) (h' : RecsIn b c) : RecsIn a c := ⟨h.1.trans h'.1, fun n k k' hk hk' r hr => by
  have hn : n < b.length := by rw [← h.1]; exact (List.getElem?_eq_some_iff.mp hk).1
  have e := List.getElem?_eq_getElem hn
  exact h'.2 n _ k' e hk' r (h.2 n k _ hk e r hr)⟩
theorem RecsIn.takers {ks ks' : List Kp} (h : RecsIn ks ks') (e : Int) (p : Nat) (x : Ent) : takersN ks e p x ≤ takersN ks' e p x :=
  filter_more h.1 fun n a b ha hb hP => decide_eq_true (h.2 n a b ha hb _ (of_decide_eq_true hP))
theorem handle_recs (i : Nat) (k : Kp) (l : Let) : (k.handle i l).recs = k.recs := by
  cases l with
  | ask e n =>
    simp only [Kp.handle]
    split <;> rfl
  | write e n p x =>
    simp only [Kp.handle]
    split
    · rfl
    · split <;> rfl
  | _ => rfl
theorem RecsIn.set {ks : List Kp} {n : Nat} {k k' : Kp} (hk : ks[n]? = some k) (h : ∀ r ∈ k.recs, r ∈ k'.recs) : RecsIn ks (ks.set n k') := ⟨by rw [List.length_set], fun i a b ha hb r hr => by
  by_cases c : i = n
  · subst c
    rw [hk] at ha
    cases ha
    rw [List.getElem?_set_self (List.getElem?_eq_some_iff.mp hk).1] at hb
    cases hb
    exact h r hr
  · rw [List.getElem?_set_ne (fun z => c z.symm), ha] at hb
    cases hb
    exact hr⟩
theorem giveAll_recs (up : List Nat) : ∀ (as : List Let) (ks : List Kp), RecsIn ks (giveAll up ks as)
  | [], ks => RecsIn.refl ks
  | a :: as, ks => by
    rw [giveAll_cons]
    refine RecsIn.trans ?_ (giveAll_recs up as _)
    split
    · cases hk : ks[a.num]? with
      | none =>
        unfold onK
        rw [hk]
        exact RecsIn.refl _
      | some k =>
        rw [onK_some hk]
        exact RecsIn.set hk fun r hr => by rw [handle_recs]; exact hr
    · exact RecsIn.refl _
theorem drain_recs (m : Nat) : ∀ (up : List Nat) (ks : List Kp) (ss : List Sq), RecsIn ks (drain m up (ks, ss)).1
  | [], ks, ss => RecsIn.refl ks
  | n :: up, ks, ss => by
    show RecsIn ks (drain m up (drain1 m (ks, ss) n)).1
    refine RecsIn.trans (b := (drain1 m (ks, ss) n).1) ?_ (drain_recs m up _ _)
    unfold drain1
    cases hk : ks[n]? with
    | none => exact RecsIn.refl _
    | some k => exact RecsIn.set hk fun r hr => List.mem_append_left _ hr
theorem exch_recs (m j : Nat) (up : List Nat) (ks : List Kp) (ss : List Sq) : RecsIn ks (exch m j up ks ss).1 := by
  unfold exch
  cases hs : ss[j]? with
  | none => exact RecsIn.refl _
  | some s => exact (giveAll_recs up _ _).trans (drain_recs m up _ _)

/-! ### the count that most have reached -/
theorem kth {m : Nat} {ns cs : List Int} (perm : cs.Perm ns) (up : cs.Pairwise (· ≤ ·)) {top : Int} (hle : ∀ a ∈ ns, a ≤ top) (hmany : most m ≤ (ns.filter fun a => decide (a = top)).length) (hlen : ns.length = m) : cs[m - most m]? = some top := by
  have hl : cs.length = m := by rw [perm.length_eq]; exact hlen
  have hm : most m ≤ m := by
    have := List.length_filter_le (fun a => decide (a = top)) ns
    omega
  have h1 : 1 ≤ most m := by unfold most; omega
  have hk : m - most m < cs.length := by omega
  refine (List.getElem?_eq_getElem hk).trans (congrArg some ?_)
  have hc : cs[m - most m] ≤ top := hle _ (perm.subset (List.getElem_mem hk))
  refine Classical.byContradiction fun hne => ?_
  have hlt : cs[m - most m] < top := by omega
  have hf : (cs.filter fun a => decide (a = top)).length = (ns.filter fun a => decide (a = top)).length := (perm.filter _).length_eq
  have e0 : cs = cs.take (m - most m + 1) ++ cs.drop (m - most m + 1) := (List.take_append_drop _ _).symm
  have ht : (cs.take (m - most m + 1)).filter (fun a => decide (a = top)) = [] := by
    rw [List.filter_eq_nil_iff]
    intro a ha z
    have za : a = top := of_decide_eq_true z
    obtain ⟨i, hi⟩ := List.getElem?_of_mem ha
    have hi1 : i < m - most m + 1 := by
      have := (List.getElem?_eq_some_iff.mp hi).1
      rw [List.length_take] at this
      omega
    rw [List.getElem?_take_of_lt hi1] at hi
    have hi2 : i < cs.length := (List.getElem?_eq_some_iff.mp hi).1
    have hi3 : cs[i] = a := (List.getElem?_eq_some_iff.mp hi).2
    by_cases c : i = m - most m
    · subst c
      omega
    · have := List.pairwise_iff_getElem.mp up i (m - most m) hi2 hk (by omega)
      omega
  have hd := List.length_filter_le (fun a => decide (a = top)) (cs.drop (m - most m + 1))
  rw [List.length_drop] at hd
  have : (cs.filter fun a => decide (a = top)).length = ((cs.take (m - most m + 1)).filter fun a => decide (a = top)).length + ((cs.drop (m - most m + 1)).filter fun a => decide (a = top)).length := by
    rw [← List.length_append, ← List.filter_append, List.take_append_drop]
  rw [ht] at this
  simp only [List.length_nil] at this
  omega
end K41
set_option linter.all false
/-! K41F: the drawn steps, all in one; what the leader knows to be settled. -/
namespace K41

/-- behind drawn steps -/
structure Dr (m B : Nat) (ks : List Kp) (ss : List Sq) (ls : List Let) : Prop where
  inv : Inv m ks ss ls
  bd : Bd B ks ss ls
  few : ss.length ≤ 4
  low : ∀ s ∈ ss, s.ep < 3 * (ss.length : Nat)
theorem Dr.mono {m B B' ks ss ls} (h : Dr m B ks ss ls) (hb : B ≤ B') : Dr m B' ks ss ls := ⟨h.inv, h.bd.mono hb, h.few, h.low⟩
theorem Dr.start (m : Nat) : Dr m 0 (List.replicate m ⟨[], [], []⟩) [] [] := by
  refine ⟨⟨by simp, by simp, fun k hk => ?_, fun k hk => ?_, fun s hs => by simp at hs, fun l hl => by simp at hl⟩, ⟨fun k hk => ?_, fun s hs => by simp at hs, by simp, fun l hl => by simp at hl⟩, by simp, fun s hs => by simp at hs⟩
  · rw [List.eq_of_mem_replicate hk]
    exact ⟨fun e p x h => by simp [Kp.hist] at h, fun r h => by simp [Kp.hist] at h, fun e p x h => by simp [Kp.hist] at h, fun p q h => by simp [Kp.kn, Kp.hist, knOf, kn0] at h⟩
  · rw [List.eq_of_mem_replicate hk]
    intro l hl
    simp at hl
  · rw [List.eq_of_mem_replicate hk]
    exact ⟨by simp, by simp, fun l hl => by simp at hl⟩
theorem Dr.begin {m B ks ss ls} (h : Dr m B ks ss ls) {e : Int} (h1 : 3 * (ss.length : Nat) ≤ e) (h2 : e < 3 * (ss.length : Nat) + 3) (h3 : ss.length < 4) : (∀ s ∈ ss, s.ep ≠ e) ∧ Dr m B ks (ss ++ [fresh m e]) ls := by
  have hne : ∀ s ∈ ss, s.ep ≠ e := fun s hs z => by
    have := h.low s hs
    omega
  obtain ⟨_, I⟩ := h.inv.begin (e := e) (by omega) hne
  refine ⟨hne, I, h.bd.begin e, by rw [List.length_append]; show ss.length + 1 ≤ 4; omega, fun s hs => ?_⟩
  rw [List.length_append]
  show s.ep < 3 * ((ss.length + 1 : Nat) : Int)
  rcases List.mem_append.mp hs with z | z
  · have := h.low s z
    omega
  · rw [List.mem_singleton.mp z]
    show e < _
    omega
theorem Dr.add {m B ks ss ls} (h : Dr m B ks ss ls) {j : Nat} {s : Sq} (hj : ss[j]? = some s) (hl : s.stand = .leading) (x : Ent) : Dr m (B + 1) ks (ss.set j (s.add x)) ls := by
  refine ⟨(h.inv.add hj x hl).2, h.bd.add hj x, by rw [List.length_set]; exact h.few, fun c hc => ?_⟩
  rw [List.length_set]
  rcases List.mem_or_eq_of_mem_set hc with z | z
  · exact h.low c z
  · rw [z]
    exact h.low s (List.mem_of_getElem? hj)
theorem Dr.send {m B ks ss ls} (h : Dr m B ks ss ls) {j : Nat} {s : Sq} (hj : ss[j]? = some s) (hm : m ≤ 70) : Dr m (B + 1) ks ss (ls ++ s.toSend m) := by
  have hs := List.mem_of_getElem? hj
  refine ⟨h.inv.lets fun l hl => ?_, ?_, h.few, h.low⟩
  · rcases List.mem_append.mp hl with z | z
    · exact h.inv.letters l z
    · exact (send_ok h.inv hs l z).1
  · have hb := h.bd.mono (B' := B + 1) (by omega)
    refine ⟨hb.kp, hb.sq, ?_, fun l hl => ?_⟩
    · rw [List.length_append]
      have := h.bd.len
      have := send_len m s
      omega
    · rcases List.mem_append.mp hl with z | z
      · exact hb.small l z
      · exact send_small z _
theorem Dr.flush {m B ks ss ls} (h : Dr m B ks ss ls) {n : Nat} {k : Kp} (hn : ks[n]? = some k) (hB : B ≤ 140) : Dr m (B + 2) (ks.set n k.flush) ss (ls ++ k.wait) := by
  have hk := h.bd.kp k (List.mem_of_getElem? hn)
  obtain ⟨a, I, w⟩ := h.inv.flush hn
  have hb := (h.bd.setK (n := n) hk.flush).mono (B' := B + 2) (by omega)
  refine ⟨I.lets fun l hl => ?_, ⟨hb.kp, hb.sq, ?_, fun l hl => ?_⟩, h.few, h.low⟩
  · rcases List.mem_append.mp hl with z | z
    · exact I.letters l z
    · exact w l z
  · rw [List.length_append]
    have := h.bd.len
    have := hk.wait
    omega
  · rcases List.mem_append.mp hl with z | z
    · exact hb.small l z
    · exact (hk.small l z).mono (by omega)
theorem Dr.deliver {m B ks ss ls} (h : Dr m B ks ss ls) {j : Nat} {L : Let} (hL : ls[j]? = some L) (kept : Bool) :
    Dr m (B + 1) (if L.down = true then onK ks L.num (fun k => k.handle L.num L) else ks) (if L.down = true then ss else ss.map fun s => s.hear m L) (if kept = true then ls else ls.eraseIdx j) := by
  have hLm := List.mem_of_getElem? hL
  have sub : ∀ l ∈ (if kept = true then ls else ls.eraseIdx j), l ∈ ls := fun l hl => by
    split at hl
    · exact hl
    · exact List.mem_of_mem_eraseIdx hl
  have len : (if kept = true then ls else ls.eraseIdx j).length ≤ ls.length := by
    split
    · exact Nat.le_refl _
    · exact List.length_eraseIdx_le _ _
  have LO := h.inv.letters L hLm
  have key : ∀ ks' ss', Inv m ks' ss' ls → Bd (B + 1) ks' ss' ls → ss'.length = ss.length → (∀ s' ∈ ss', ∃ s ∈ ss, s'.ep = s.ep) → Dr m (B + 1) ks' ss' (if kept = true then ls else ls.eraseIdx j) := fun ks' ss' I b e1 e2 => by
    refine ⟨I.lets fun l hl => I.letters l (sub l hl), ⟨b.kp, b.sq, Nat.le_trans len b.len, fun l hl => b.small l (sub l hl)⟩, by rw [e1]; exact h.few, fun s hs => ?_⟩
    obtain ⟨s0, h0, e⟩ := e2 s hs
    rw [e1, e]
    exact h.low s0 h0
  by_cases dn : L.down = true
  · rw [if_pos dn, if_pos dn]
    have hn : L.num < ks.length := by rw [h.inv.klen]; exact LO.lt
    have hk : ks[L.num]? = some ks[L.num] := List.getElem?_eq_getElem hn
    rw [onK_some hk]
    exact key _ _ (h.inv.handle hk LO).2 ((h.bd.mono (by omega)).setK ((h.bd.kp _ (List.mem_of_getElem? hk)).handle _ _)) rfl fun s hs => ⟨s, hs, rfl⟩
  · rw [if_neg dn, if_neg dn]
    refine key _ _ (h.inv.hear LO).2 ((h.bd.hear (h.bd.small L hLm)).mono (by omega)) (by rw [List.length_map]) fun s' hs' => ?_
    obtain ⟨s, hs, rfl⟩ := List.mem_map.mp hs'
    exact ⟨s, hs, hear_ep m s L⟩
/-- few records, at small places -/
theorem Inv.fewP {m B ks ss ls} (I : Inv m ks ss ls) (b : Bd B ks ss ls) {k : Kp} (hk : k ∈ ks) : k.recs.length ≤ B ∧ ∀ e p x, Rec.take e p x ∈ k.recs → p < B + 1 := by
  refine ⟨by have := (b.kp k hk).hist; omega, fun e p x h => ?_⟩
  obtain ⟨s, hs, _, e2⟩ := (I.kp k hk).wrote e p x (List.mem_append_left _ h)
  have h1 := (List.getElem?_eq_some_iff.mp e2).1
  have h2 := (b.sq s hs).row
  omega

/-! ### what the leader knows -/
theorem count_up {m t : Nat} {up taken : List Nat} (U : Up m up) (hl : taken.length = m) (h : ∀ n ∈ up, taken[n]? = some t) : most m ≤ ((taken.map fun t => ((t : Nat) : Int)).filter fun a => decide (a = ((t : Nat) : Int))).length := by
  have e1 : up.length = ((List.range m).filter fun n => decide (n ∈ up)).length := by
    refine List.Perm.length_eq ((List.perm_ext_iff_of_nodup U.nd (List.filter_sublist.nodup List.nodup_range)).mpr fun n => ?_)
    rw [List.mem_filter, List.mem_range]
    exact ⟨fun hn => ⟨U.lt n hn, decide_eq_true hn⟩, fun hn => of_decide_eq_true hn.2⟩
  have e2 : taken.map (fun t => ((t : Nat) : Int)) = (List.range m).map fun n => ((taken.getD n 0 : Nat) : Int) := by
    refine List.ext_getElem? fun i => ?_
    rw [List.getElem?_map, List.getElem?_map]
    by_cases c : i < m
    · rw [List.getElem?_range c, List.getElem?_eq_getElem (by omega)]
      simp [List.getD_eq_getElem?_getD, hl, c]
    · rw [List.getElem?_eq_none (by omega), List.getElem?_eq_none (by rw [List.length_range]; omega)]
      rfl
  rw [e2, List.filter_map, List.length_map, ← List.countP_eq_length_filter]
  rw [← List.countP_eq_length_filter] at e1
  have := U.many
  have h3 : (List.range m).countP (fun n => decide (n ∈ up)) ≤ (List.range m).countP ((fun a => decide (a = ((t : Nat) : Int))) ∘ fun n => ((taken.getD n 0 : Nat) : Int)) := by
    refine List.countP_mono_left fun n _ hn => ?_
    have := h n (of_decide_eq_true hn)
    show decide (((taken.getD n 0 : Nat) : Int) = ((t : Nat) : Int)) = true
    rw [List.getD_eq_getElem?_getD, this]
    exact decide_eq_true rfl
  omega
theorem Round.knows {m up j e0 R} {ks : List Kp} {ss : List Sq} {ls : List Let} (I : Inv m ks ss ls) (U : Up m up) (h : Round m up j e0 R R.length ks ss) {L : Sq} (hL : ss[j]? = some L) {cs : List Int} (hp : cs.Perm (L.taken.map fun t => ((t : Nat) : Int))) (hs : cs.Pairwise (· ≤ ·)) {c : Nat}
    (hc : cs[m - most m]? = some ((c : Nat) : Int)) : L.row.take c = R := by
  obtain ⟨⟨L', h1, h2, h3, h4, h5⟩, _, _⟩ := h
  rw [hL] at h1
  cases h1
  have ok := I.sq L (List.mem_of_getElem? hL)
  have e := kth hp hs (top := ((R.length : Nat) : Int)) (fun a ha => by
    obtain ⟨t, ht, rfl⟩ := List.mem_map.mp ha
    have := ok.tle t ht
    rw [h4] at this
    omega) (count_up U ok.tlen h5) (by rw [List.length_map]; exact ok.tlen)
  rw [e] at hc
  have : ((R.length : Nat) : Int) = ((c : Nat) : Int) := Option.some.inj hc
  have e2 : c = R.length := by omega
  rw [e2, h4, List.take_length]
/-- an elder one has changed -/
theorem Round.old {m up j e0 R t ks ss} (h : Round m up j e0 R t ks ss) {i : Nat} {s : Sq} (hi : i ≠ j) (hs : s.ep < e0) : Round m up j e0 R t ks (ss.set i s) := by
  obtain ⟨⟨L, h1, h2⟩, hlow, hk⟩ := h
  refine ⟨⟨L, by rw [List.getElem?_set_ne hi]; exact h1, h2⟩, fun q c hq hn => ?_, hk⟩
  by_cases z : q = i
  · subst z
    rw [List.getElem?_set_self' ] at hq
    cases hx : ss[q]? with
    | none => rw [hx] at hq; cases hq
    | some y =>
      rw [hx] at hq
      cases hq
      exact hs
  · rw [List.getElem?_set_ne (fun y => z y.symm)] at hq
    exact hlow q c hq hn
theorem Round.clean {m up j e0 R t ks ss} (h : Round m up j e0 R t ks ss) : Clean up e0 ks := fun n hn => by
  obtain ⟨k, h1, h2, h3, h4, _⟩ := h.keep n hn
  exact ⟨k, h1, h2, h3, h4⟩
end K41
set_option Elab.async false
set_option linter.all false
set_option maxRecDepth 100000
set_option maxHeartbeats 4000000
/-! L41A: rules beside the layer's: xs[i] read for xs[i] += e; a list against []; the place of an instance in a list. -/
namespace K41
open PySem PySem.Spec PyProof.Rows L2

section
variable {X : Cx}
/-- the item of a list, for a store by an operator -/
theorem get_lst : PGet X (fun x y H Q => ∃ p xs i v, x = .ref p ∧ y = .int i ∧ SqL X.K H p xs ∧ 0 ≤ i ∧ xs[i.toNat]? = some v ∧ Q v H) := by
  intro pins s σ H o i ov iv Q I ro ri h
  obtain ⟨p, xs, k, v, rfl, rfl, hx, h0, hk, q⟩ := h
  cases ro
  obtain ⟨t, rfl⟩ := ri
  obtain ⟨its, rv, pl, hz⟩ := I.list hx
  obtain ⟨u, eu, ru⟩ := rv.get hk
  have hl : k.toNat < xs.length := (List.getElem?_eq_some_iff.mp hk).1
  have hn := line63
  exact wpAny_getItem_list pl.isList h0 (by omega) (by simpa using eu) ⟨v, H, I, ru, q⟩

/-- a list, whatever it holds, against an empty one -/
theorem op_ne_nil (hu : X.A.units < cLine) : OpR X (compareOp .NotEq) (fun x y H Q => ∃ a b xs, x = .ref a ∧ y = .ref b ∧ SqL X.K H a xs ∧ SqL X.K H b [] ∧ Q (.bl (!xs.isEmpty)) H) := by
  intro pins s σ H x y v u Q I rx ry h
  obtain ⟨a, b, xs, rfl, rfl, ha, hb, q⟩ := h
  cases rx
  cases ry
  obtain ⟨its, rv, pl, hz⟩ := I.list ha
  obtain ⟨its2, rv2, pl2, hz2⟩ := I.list hb
  cases rv2
  have hl := rv.length
  by_cases hx : xs = []
  · subst hx
    cases rv
    exact SeqAt.RcNeAt.lists (e := fun _ => true) pl.isList pl2.isList rfl hu (fun j h1 _ => absurd h1 (by simp)) _ _ _ _ ⟨.bl false, H, I, rfl, q⟩
  · have hne : (its.toArray.size != ([] : List Value).toArray.size) = true := by
      have : xs.length ≠ 0 := fun z => hx (List.length_eq_zero_iff.mp z)
      simp only [List.size_toArray, List.length_nil, bne_iff_ne]
      omega
    have e : (!xs.isEmpty) = true := by
      cases xs with
      | nil => exact absurd rfl hx
      | cons a r => rfl
    rw [e] at q
    exact SeqAt.RcNeAt.lists_lengths pl.isList pl2.isList hne hu _ _ _ _ ⟨.bl true, H, I, rfl, q⟩
end

/-! ### the place of an instance -/
section
variable {M : Model} {prog : Program} {w : World} {A : Around} {E : Value → Shared → Prop} {s : Shared} {K : PySem.W.Frag} {x y C : Addr} {ox oy : Obj} {od od' : Option Obj}
theorem call_eq_two {Q : Value → Shared → Prop} (hxy : x ≠ y) (X : K.In s.heap) (I : PySem.W.InstAt s.heap x ox C od) (hy : s.heap.get? y = some oy) (hm : PySem.W.mroIn K C (.type "object") = some true) (hq : Q .notImplemented s) :
    wpAny (model prog w) A (call (.builtin "object.__eq__") [.ref x, .ref y]) Q E s :=
  wpAny_call (codeAny_call_builtin F.cmp_object.eq.plain F.cmpEntry_eq (PySem.W.check_slot F.cmpKind_eq F.cmpSplit_eq (I.type.andThen (PySem.W.looks_mroIn X hm)) (F.cmpArgs_eq _ _)
    (objEq_entry_other hxy I.at_ hy (by rw [I.cls]; exact fun z => Value.noConfusion z) hq)))
theorem try_eq_two (hxy : x ≠ y) (X : K.In s.heap) (I : PySem.W.InstAt s.heap x ox C od) (hy : s.heap.get? y = some oy) (hm : PySem.W.mroIn K C (.type "object") = some true)
    (hs : PySem.W.findIn K (.ref C) "__eq__" = some (some (.builtin "object.__eq__"))) : wpAny (model prog w) A (tryCompare (.ref x) "__eq__" (.ref y)) (fun r s' => r = none ∧ s' = s) E s := by
  unfold tryCompare
  exact wpAny_bind (HN.ifBound_objEq X I hs (call_eq_two hxy X I hy hm (wpAny_pure ⟨rfl, rfl⟩)))
theorem rc_two (hxy : x ≠ y) (hu : A.units < cLine) (X : K.In s.heap) (I : PySem.W.InstAt s.heap x ox C od) (J : PySem.W.InstAt s.heap y oy C od') (hm : PySem.W.mroIn K C (.type "object") = some true)
    (hs : PySem.W.findIn K (.ref C) "__eq__" = some (some (.builtin "object.__eq__"))) : SeqAt.RcAt A s (.ref x) (.ref y) false := fun prog w E Q h => by
  have one := try_eq_two (prog := prog) (w := w) (A := A) (E := E) hxy X I J.at_ hm hs
  have two := try_eq_two (prog := prog) (w := w) (A := A) (E := E) (Ne.symm hxy) X J I.at_ hm hs
  simp only [richCompare, cmpInfo_Eq, oneThing_ref]
  refine wpAny_holding (wpAny_bind (wpAny_cRoomFor hu ?_))
  refine wpAny_bind (I.type.here ?_)
  refine wpAny_bind (J.type.here ?_)
  split
  · rename_i q
    exact absurd q (by simp)
  · simp only [pure_bind, Bool.false_eq_true, if_false, Bool.not_false, if_true]
    refine wpAny_bind (m := tryCompare (.ref x) _ (.ref y)) (wpAny_mono one (fun r s1 z => ?_) fun _ _ e => e)
    obtain ⟨z1, z2⟩ := z
    subst z1
    subst z2
    refine wpAny_bind (m := tryCompare (.ref y) _ (.ref x)) (wpAny_mono two (fun r s2 z => ?_) fun _ _ e => e)
    obtain ⟨z1, z2⟩ := z
    subst z1
    subst z2
    exact wpAny_bind (wpAny_rule (wpAny_bind (wpAny_isSame_ref_other hxy I.at_ J.at_ (by rw [I.cls]; exact fun z => Value.noConfusion z) (wpAny_pure h))))
end

/-- an instance of the class at C stands at a -/
def Insts (H : Hp) (C a : Addr) : Prop := ∃ dx fs, H a = some (.ins C dx fs)
section
variable {X : Cx}
theorem eq_two {A : Around} {pins : List (Addr × Obj)} {σ : L2.St} {H : Hp} {s : Shared} {C a b : Addr} (I : L2.Inv X pins σ H s) (hu : A.units < cLine) (ha : Insts H C a) (hb : Insts H C b) (hm : PySem.W.mroIn X.K C (.type "object") = some true)
    (hs : PySem.W.findIn X.K (.ref C) "__eq__" = some (some (.builtin "object.__eq__"))) : SeqAt.EqAt A s (.ref a) (.ref b) (decide (a = b)) := by
  by_cases e : a = b
  · subst e
    rw [decide_eq_true rfl]
    exact SeqAt.EqAt.same _
  · rw [decide_eq_false e]
    obtain ⟨dx, fs, ha⟩ := ha
    obtain ⟨dy, gs, hb⟩ := hb
    obtain ⟨mA, O, _⟩ := ins_get I.hok ha
    obtain ⟨mB, O2, _⟩ := ins_get I.hok hb
    obtain ⟨od, J, _⟩ := O.look
    obtain ⟨od2, J2, _⟩ := O2.look
    exact SeqAt.EqAt.of_refs e (rc_two e hu I.kIn J J2 hm hs)
/-- as.index(a), all items instances of one class without an own equality -/
def rIxI (K : PySem.W.Frag) (C : Addr) : V → List V → Hp → VK → Prop := fun x xs H Q => ∃ (l : Addr) (as : List Addr) (j : Nat) (a : Addr), x = V.ref l ∧ xs = [V.ref a] ∧ SqL K H l (as.map V.ref) ∧ (∀ b ∈ as, Insts H C b) ∧ as[j]? = some a ∧
  (∀ (m : Nat) b, m < j → as[m]? = some b → b ≠ a) ∧ Q (.int (j : Nat)) H
theorem refs_get {as : List Addr} {us : List Value} (r : Vals (as.map V.ref) us) : us = as.map Value.ref := by
  induction as generalizing us with
  | nil => cases r; rfl
  | cons a as ih =>
    cases r with
    | cons h t =>
      cases h
      rw [ih t]
      rfl
theorem mt_indexI {C : Addr} (hu : X.A.units + 1 < cLine) (hm : PySem.W.mroIn X.K C (.type "object") = some true) (hs : PySem.W.findIn X.K (.ref C) "__eq__" = some (some (.builtin "object.__eq__"))) : MtR X "list.index" (rIxI X.K C) := by
  intro pins s σ H x xs v us Q I rx rxs h
  obtain ⟨l, as, j, a, rfl, rfl, hl, hins, hj, hno, q⟩ := h
  cases rx
  cases rxs with
  | cons ry rt =>
    cases ry
    cases rt
    obtain ⟨its, rv, ⟨⟨cls, dd, data, sl⟩, n, ho, hc, hdn, hd⟩, hlen⟩ := I.list hl
    simp only at hc hd
    subst hc hd
    have e0 := refs_get rv
    subst e0
    have hsl := sizeLine_eq
    obtain ⟨hjl, hje⟩ := List.getElem?_eq_some_iff.mp hj
    rw [List.length_map] at hlen
    have ai : Insts H C a := hins a (List.mem_of_getElem? hj)
    refine call_meets PySem.F.slot_list_index ⟨_, ho, rfl⟩ PySem.F.entry_list_index (PySem.F.args_list_index_2 _ _)
      (SeqAt.list_indexAt l (as.map Value.ref).toArray n dd sl (.ref a) (fun u => decide (u = .ref a)) j (by simpa using hjl) (by omega) ?_ ?_) ⟨ho, fun u hu' => ?_, ?_⟩
    · simp [hje]
    · intro m hm hmj
      have hml : m < as.length := by simpa using hm
      have := hno m as[m] hmj (List.getElem?_eq_getElem hml)
      simpa using this
    · have hu2 : u ∈ as.map Value.ref := by simpa using hu'
      obtain ⟨b, hb, rfl⟩ := List.mem_map.mp hu2
      have := eq_two (A := X.A.in1) I (show X.A.units + 1 < cLine from hu) (hins b hb) ai hm hs
      have e : decide (Value.ref b = Value.ref a) = decide (b = a) := by
        by_cases z : b = a
        · subst z
          simp
        · rw [decide_eq_false z, decide_eq_false (fun q => z (by injection q))]
      rw [e]
      exact this
    · exact ⟨.int (j : Nat), H, I.tok _, ⟨_, rfl⟩, q⟩
end
end K41
set_option Elab.async false
set_option linter.all false
set_option maxRecDepth 100000
set_option maxHeartbeats 4000000
/-! L41B: an own error two classes below Exception whose __init__ hands a text to super().__init__ and keeps a field. -/
namespace K41
open PySem PySem.W PySem.Calls PyProof.Rows

/-! ### the text, by places -/
def top (i : Nat) : Stmt := PySem.Challenge.pw_mastcalls_k41_whole_takes_over.main.body.getD i (.Pass ⟨0, 0, 0, 0⟩)
abbrev sBad : Stmt := L2.inClass (top 3) 0

/-- the classes above, ending in Exception's own -/
def bmOf (D : Addr) : List Value := .ref D :: ESX.exTail

/-- what the written part tells of the class at C, below the class at D; its __init__ at fI, the cell of __class__ at cc, the code at ca -/
structure BadTxt (P : Program) (K : Frag) (mg : Str → Option Value) (C D fI : Addr) : Prop where
  gC : mg "BadName" = some (.ref C)
  cls : ∃ nm q N bs sn sub ab col dd k0 k1 k2 k3 k5, K.lookup C = some (excClassObj nm q C N bs (bmOf D) true sn sub ab col dd k0 k1 k2 k3 k5 "Exception.__new__")
  sa : findIn K (.ref C) "__setattr__" = some (some (.builtin "object.__setattr__"))
  ga : findIn K (.ref C) "__getattribute__" = some (some (.builtin "BaseException.__getattribute__"))
  gg : findIn K (.ref C) "__getattr__" = some none
  noN : findIn K (.ref C) "name" = some none
  iC : findIn K (.ref C) "__init__" = some (some (.ref fI))
  tC : typeIn K (.ref fI) = some (.type "function")
  kC : keepIn K (.ref C) = true
  exC : subIn K (.ref C) (.type "BaseException") = some true
  exE : subIn K (.ref C) (.type "Exception") = some true
  tyC : typeIn K (.ref C) = some (.type "type")
  hdC : hasDictIn K C = true
  up : alongIn K "__init__" (bmOf D) = some (some (.builtin "Exception.__init__"))
  st : nsIn K cStatics "thirdparty.any" = some none
  fn : ∃ (oc : Value) (od : Option Addr) (dV kV doc pm : Value) (an : Option Addr) (cda : Addr) (ct : Value) (osl : Array (Option Value)) (cc : Addr) (cl : Value) (cld : Option Addr) (csl : Array (Option Value))
      (ccl : Value) (cdd : Option Addr) (vs : Array Value) (ccs : Array (Option Value)) (file : Str) (tf : Tok),
    K.lookup fI = some ⟨oc, od, .func (fnX "__init__" "BadName.__init__" (L2.defArgs sBad) (L2.defBody sBad) (L2.defScope sBad) [("__class__", cc)] .none kV doc pm an (.ref cda) ct), osl⟩ ∧ codeIn K (.ref cda) "BadName.__init__" = true ∧
    K.lookup cc = some ⟨cl, cld, .cell (some (.ref C)), csl⟩ ∧ K.lookup cda = some ⟨ccl, cdd, .fields vs, ccs⟩ ∧ vs[2]? = some (.str file tf) ∧ ((P.main.file : Str) == file) = true
  top : (P.main.scope.names.lookup ("super" : Str)).isSome = false
  su : mg "super" = none

theorem bm_contains (D : Addr) (X : String) : (bmOf D).contains (.type X) = ESX.exTail.contains (.type X) := by
  unfold bmOf
  rw [List.contains_cons]
  rfl

/-! self.name = v on an exception without a dict, of a class two below Exception -/
section
open Builtin Builtin.ObjectAttr
variable {prog : Program} {w : World} {A : Around} {E : Value → Shared → Prop} {R : Result → Shared → Prop} {hp : Heap} {g : Array GenState} {d : Drawn} {t : Nat} {os : OsState}
theorem store_two {K : W.Frag} {name : Str} {tk : Tok} {v : Value} {x C D : Addr} {fv : Array Value} {cd : ClassData}
    (X : K.In hp) (hx : hp.get? x = some { cls := .ref C, data := .fields fv }) (hcd : W.clsIn K C = some cd) (hm : cd.mro = .ref C :: bmOf D) (hh : cd.hasDict = true) (ha : W.findIn K (.ref C) name = some none)
    (hq : ∀ h' tk' dx, (∀ b o, b ≠ x → hp.get? b = some o → h'.get? b = some o) → hp.objs.size ≤ dx → dx ≠ x → h'.get? x = some { cls := .ref C, dict := some dx, data := .fields fv } →
      h'.Ns1 dx (fun y => if y = name then some v else none) → R (.ok (.ret .none)) ⟨h', g, d, tk', os⟩) :
    codeAny (model prog w) A (.call (.builtin "object.__setattr__") ⟨[.ref x, .str name tk, v], []⟩) R ⟨hp, g, d, t, os⟩ := by
  have I : W.InstAt hp x { cls := .ref C, data := .fields fv } C none := ⟨hx, rfl, rfl, trivial⟩
  have SF := F.store_object
  have hob : cd.mro.contains (.type "object") = true := by
    rw [hm, List.contains_cons, bm_contains]
    have : ESX.exTail.contains (.type "object") = true := by decide +kernel
    rw [this, Bool.or_true]
  have hne : ¬ cd.mro.isEmpty = true := by rw [hm]; exact Bool.false_ne_true
  have hxs : x ≠ hp.objs.size := Nat.ne_of_lt (Heap.lt_size hx)
  have sub : W.Looks (model prog w) hp (isInstance (.ref x) (.type "object")) true := by
    refine I.type.andThen (W.looks_mroIn X ?_)
    unfold W.mroIn
    rw [hcd, Option.bind_some, if_neg hne, hob]
  have hmr : W.Looks (model prog w) hp (mroOf (.ref C)) cd.mro := (W.looks_clsIn X hcd).andThen .now
  have L3 : W.Looks (model prog w) hp (storeTaker? none) none := .now
  have hcls : W.Looks (model prog w) hp (classData C) cd := W.looks_clsIn X hcd
  have pass : refuseLoop (.ref x) "__setattr__" cd.mro = pure () := by
    rw [hm]
    unfold bmOf
    rw [refuseLoop_ref, refuseLoop_ref]
    exact F.store_Exception.passes _
  refine codeAny_call_builtin SF.slot.plain SF.entry ?_
  refine @W.check_slot (model prog w) _ _ ⟨hp, g, d, t, os⟩ "object.__setattr__" "object" "__setattr__" (.ref x) [.str name tk, v] [] _ SF.kind SF.split sub (SF.args (.ref x) (.str name tk) v) ?_
  rw [W.osa_eq, refuse_eq]
  refine wpAny_bind (wpAny_bind (I.type.at (wpAny_bind (hmr.at ?_))))
  rw [pass]
  refine wpAny_pure (wpAny_bind (I.type.at (wpAny_bind ((W.looks_findIn X ha).at (wpAny_bind (L3.at ?_))))))
  show wpAny _ _ (storeInOwnDict (.ref x) (.ref C) (.str name tk) name v false) _ _ _
  obtain ⟨nm, bs, mro, ns, qn, hd, sn, sb, ab, col, del⟩ := cd
  dsimp only at hh
  subst hh
  unfold storeInOwnDict ownDictForStores
  repeat (first | with_reducible refine HandSPX.store_in_new ?_ ?_ | with_reducible refine wpAny_loadPart_at hx ?_ | with_reducible refine hcls.at ?_ | wp_step)
  · exact ⟨_, #[], _, (Heap.get?_update_ne _ _ _ _ hxs.symm).trans (Heap.get?_push_at rfl rfl), rfl, fun e he => absurd he (by simp), fun _ => rfl⟩
  · intro h' tk' hn' hs
    have hx1 : (hp.push { cls := .type "dict", data := .dict #[] }).get? x = some { cls := .ref C, data := .fields fv } := Heap.get?_push_of_some _ hx
    refine hq h' tk' hp.objs.size (fun b o hb ho => ?_) (Nat.le_refl _) hxs.symm ?_ hn'
    · have hlt : b ≠ hp.objs.size := Nat.ne_of_lt (Heap.lt_size ho)
      exact (hs.2 b hlt).trans ((Heap.get?_update_ne _ _ _ _ hb).trans (Heap.get?_push_of_some _ ho))
    · exact (hs.2 x hxs).trans (Heap.get?_update_self _ hx1 rfl)
end

structure BadInit (h h' : Heap) (x C dx t1 : Addr) (v : Value) : Prop where
  keep : ∀ b o, b ≠ x → h.get? b = some o → h'.get? b = some o
  obj : h'.get? x = some { cls := .ref C, dict := some dx, data := .fields #[.ref t1, .none, .none, .none, .bool false, .none] }
  dbig : h.objs.size ≤ dx
  dne : dx ≠ x
  ns : h'.Ns1 dx (fun y => if y = "name" then some v else none)
structure BadMade (h h' : Heap) (e C d : Addr) (v : Value) : Prop where
  keep : ∀ b o, h.get? b = some o → h'.get? b = some o
  new : h.objs.size ≤ e
  obj : ∃ oe vs, h'.get? e = some oe ∧ oe.cls = .ref C ∧ oe.dict = some d ∧ oe.data = .fields vs ∧ vs[1]? = some .none
  dbig : h.objs.size ≤ d
  dne : d ≠ e
  ns : h'.Ns1 d (fun y => if y = "name" then some v else none)

section
variable {prog : Program} {w : World} {A : Around} {E : Value → Shared → Prop} {R : Result → Shared → Prop} {s : Shared} {K : Frag} {mg : Str → Option Value} {C D fI : Addr} {base : Heap}
theorem bad_init (T : BadTxt prog K mg C D fI) (MO : L2.Mod K mg base) {x t0 : Addr} {v : Value} (kb : ∀ b o, base.get? b = some o → s.heap.get? b = some o) (hx : s.heap.get? x = some (HandSPX.excO C t0)) (hnx : K.lookup x = none)
    (hroom : A.depth < recursionLimit) (hq : ∀ h' tk dx t1, BadInit s.heap h' x C dx t1 v → R (.ok (.ret .none)) { s with heap := h', toks := tk }) :
    codeAny (model prog w) A (.call (.ref fI) ⟨[.ref x, v], []⟩) R s := by
  obtain ⟨oc, od, dV, kV, doc, pm, an, cda, ct, osl, cc, cl, cld, csl, ccl, cdd, vs, ccs, file, tf, ho, hcd, hcc, hca, hvs, hfile⟩ := T.fn
  obtain ⟨nm, q, N, bs, sn, sub, ab, col, dd, k0, k1, k2, k3, k5, hC⟩ := T.cls
  have X : K.In s.heap := MO.kin.keeps kb
  have hcl : clsIn K C = some { name := nm, bases := bs, mro := .ref C :: bmOf D, ns := N, qualname := q, hasDict := true, slotNames := sn, subclasses := sub, abstract := ab, collection := col, hasDel := false } := by
    unfold clsIn
    rw [hC] <;> rfl
  obtain ⟨mb, hmb, hbt⟩ := MO.blt
  have c1 : ∀ x ∈ (L2.defScope sBad).names, x.2 ≠ .cell := by decide +kernel
  have c2 : (L2.defScope sBad).names.lookup (PySem.Str.ofString "self") = some .local := by decide +kernel
  have c3 : (L2.defScope sBad).names.lookup (PySem.Str.ofString "name") = some .local := by decide +kernel
  obtain ⟨h0, g, d, tk, os⟩ := s
  refine ks_codeAny_call_defAt (fd := fnX "__init__" "BadName.__init__" (L2.defArgs sBad) (L2.defBody sBad) (L2.defScope sBad) [("__class__", cc)] .none kV doc pm an (.ref cda) ct) (body := L2.defBody sBad)
    (binds := [("self", .ref x), ("name", v)]) hroom (X _ _ ho) rfl (MO.nolimit.keeps kb) (codeRec_of X hcd) rfl (BindsTo.of_eq (by first | rfl | with_unfolding_all rfl)) c1 (fun y hy => ?_) (fun h1 hns k1 => ?_) rfl rfl rfl
  · rcases List.mem_cons.mp hy with rfl | hy
    · exact c2
    · rw [List.mem_singleton.mp hy]
      exact c3
  have X1 : K.In h1 := X.keeps k1
  have kb1 : ∀ b o, base.get? b = some o → h1.get? b = some o := fun b o e => k1 b o (kb b o e)
  have hx1 := k1 _ _ hx
  have hxL : x ≠ h0.objs.size := Nat.ne_of_lt (Heap.lt_size hx)
  have I1 : InstAt h1 x (HandSPX.excO C t0) C none := ⟨hx1, rfl, rfl, trivial⟩
  have hxC : x ≠ C := ks_ne X1 I1 hcl
  have hmC : mroIn K C (.ref C) = some true := by
    unfold mroIn
    rw [hcl, Option.bind_some, if_neg (by exact Bool.false_ne_true)]
    simp
  -- super().__init__("a bad name")
  refine ks_wpAt_execs_cons (ks_wpAt_Expr_any (ks_wpAt_MethodCall ?_) rfl rfl)
  refine ks_wpAt_super_base (fd := fnX "__init__" "BadName.__init__" (L2.defArgs sBad) (L2.defBody sBad) (L2.defScope sBad) [("__class__", cc)] .none kV doc pm an (.ref cda) ct) rfl rfl (by decide +kernel) rfl (X1 _ _ ho) rfl rfl rfl (X1 _ _ hca) rfl hvs hfile T.top ?_
  refine ks_loadName_global rfl rfl (loadGlobal_builtin (MO.glob.keeps kb1) T.su (hmb.keeps kb1) ((hbt "super" (by decide +kernel)).trans (by decide +kernel)) ⟨rfl, ?_⟩)
  refine wpAny_loadName_free rfl rfl rfl ⟨_, X1 _ _ hcc, rfl⟩ ?_
  refine wpAny_loadName_local rfl rfl hns rfl ?_
  refine ks_wpAny_isType_cls (X1 _ _ hC) rfl ⟨rfl, ?_⟩
  refine ks_wpAny_call_super (X1 _ _ hC) rfl hx1 rfl (fun c e => nomatch e) (looks_mroIn X1 hmC) (fun h2 e2 k2 => ?_)
  have X2 := X1.keeps k2
  have hx2 := k2 _ _ hx1
  have I2 : InstAt h2 x (HandSPX.excO C t0) C none := ⟨hx2, rfl, rfl, trivial⟩
  refine ESX.getMethod_super (C := C) (D := C) e2 (looks_opaque X2 T.st) (l₀ := .ref C :: bmOf D) (l := bmOf D) (fun A Q E s k q => wpAny_bind ((looks_clsIn X2 hcl) A _ E s k (wpAny_pure q))) (ESX.drop_own C _) X2 T.up hxC (by decide +kernel)
    (I2.type.andThen (looks_subIn X2 T.exE)) ?_
  have k3 : ∀ b o, h2.get? b = some o → (h2.push (ESX.bw x)).get? b = some o := fun b o e => Heap.get?_push_of_some _ e
  refine ESX.callWith_bound (x := x) ?_
  refine Calls.spliced_cons (Calls.Constant_str (k := 0) (pos := ⟨0, 0, 0, 0⟩) ?_)
  refine Calls.spliced_nil ⟨Heap.get?_push_at rfl rfl, ?_⟩
  have X3 := X2.keeps k3
  have hx3 := k3 _ _ hx2
  refine ESX.call_bw (X3 _ _ hC) hx3 (Heap.get?_push_at rfl rfl) (by rw [sizeLine_eq]; exact (by decide : 1 ≤ 16777216)) (fun h4 t1 k4 hx4 => ?_)
  have hCx : C ≠ x := fun z => hxC z.symm
  have hns4 : h4.Ns h0.objs.size (fun y => List.lookup y (List.reverse [(PySem.Str.ofString "self", Value.ref x), (PySem.Str.ofString "name", v)])) := hns.at fun o e => k4 _ _ (Ne.symm hxL) (k3 _ _ (k2 _ _ e))
  have Kx : ∀ b o, K.lookup b = some o → b ≠ x := fun b o e z => by rw [z, hnx] at e; cases e
  have X4 : K.In h4 := fun b o e => k4 b o (Kx b o e) (X3 b o e)
  -- self.name = name
  show PySem.wpAt _ _ _ (execs _ _) _ _ _
  refine ks_wpAt_execs_cons (wpAt_of_wpAny ?_)
  refine plainObj_wpAny_Assign_Attribute ?_
  refine wpAny_Name (wpAny_loadName_local rfl rfl hns4 rfl ?_)
  refine wpAny_Name (wpAny_loadName_local rfl rfl hns4 rfl ?_)
  refine set_plain (C := C) X4 (ox := HandSPX.excO C t1) (od := none) ⟨hx4, rfl, rfl, trivial⟩ T.sa ?_
  refine store_two X4 hx4 hcl rfl rfl T.noN (fun h5 tk5 dx k5 dn dne hx5 hn5 => ?_)
  show PySem.wpAt _ _ _ (execs _ _) _ _ _
  refine wpAt_of_wpAny (wpAny_execs_nil ?_)
  have z : h0.objs.size ≤ h4.objs.size := by
    obtain ⟨oL, _, _, e, _⟩ := hns4
    exact Nat.le_of_lt (Heap.lt_size e)
  exact hq h5 _ dx t1 ⟨fun b o hb e => k5 b o hb (k4 b o hb (k3 _ _ (k2 _ _ (k1 _ _ e)))), hx5, Nat.le_trans z dn, dne, hn5⟩
/-- BadName(v) called: a new exception that keeps v -/
theorem bad_made (T : BadTxt prog K mg C D fI) (MO : L2.Mod K mg base) {v : Value} (kb : ∀ b o, base.get? b = some o → s.heap.get? b = some o) (hroom : A.depth + 1 < recursionLimit)
    (hq : ∀ h' tk e d, BadMade s.heap h' e C d v → R (.ok (.ret (.ref e))) { s with heap := h', toks := tk }) :
    codeAny (model prog w) A (.call (.ref C) ⟨[v], []⟩) R s := by
  obtain ⟨nm, q, N, bs, sn, sub, ab, col, dd, k0, k1, k2, k3, k5, hC⟩ := T.cls
  have X : K.In s.heap := MO.kin.keeps kb
  obtain ⟨hp, g, d, tk, os⟩ := s
  have k : ∀ b o, hp.get? b = some o → ((hp.push (kdv_tup [v])).push (HandSPX.excO C hp.objs.size)).get? b = some o := fun b o e => Heap.get?_push_of_some _ (Heap.get?_push_of_some _ e)
  have hget : ((hp.push (kdv_tup [v])).push (HandSPX.excO C hp.objs.size)).get? (hp.objs.size + 1) = some (HandSPX.excO C hp.objs.size) := by heap_get
  have hnx : K.lookup (hp.objs.size + 1) = none := by
    cases e : K.lookup (hp.objs.size + 1) with
    | none => rfl
    | some o => exact absurd (Nat.lt_of_succ_lt (Heap.lt_size (X _ _ e))) (Nat.lt_irrefl _)
  refine HandSPX.call_own F.excBase_Exception (fun X => bm_contains D X) (X _ _ hC) (looks_findIn X T.iC) (fun self => bind_fn X self T.tC) (by rw [sizeLine_eq]; exact (by decide : 1 ≤ 16777216)) ?_
  refine bad_init (s := ⟨(hp.push (kdv_tup [v])).push (HandSPX.excO C hp.objs.size), g, d, tk, os⟩) T MO (fun b o e => k b o (kb b o e)) hget hnx hroom fun h' tk' dx t1 ⟨k', hx, dn, dne, hns⟩ => ?_
  have old : ∀ b o, hp.get? b = some o → h'.get? b = some o := fun b o e => k' b o (Nat.ne_of_lt (Nat.lt_succ_of_lt (Heap.lt_size e))) (k b o e)
  have z : hp.objs.size + 1 + 1 ≤ dx := by
    have q := dn
    rw [Heap.size_push, Heap.size_push] at q
    exact q
  exact ⟨rfl, hq h' tk' (hp.objs.size + 1) dx ⟨old, Nat.le_succ _, ⟨_, _, hx, rfl, rfl, rfl, rfl⟩, (by show hp.objs.size ≤ dx; omega), dne, hns⟩⟩
end
end K41

namespace K41
open PySem PySem.Spec PyProof.Rows L2
theorem relO_bad {v : V} {v' : Value} (r : RelV v v') (f : Str) : RelO (List.lookup f [(("name" : Str), v)]) (if f = "name" then some v' else none) := by
  by_cases hw : f = "name"
  · subst hw
    rw [if_pos rfl]
    have q : List.lookup ("name" : Str) [(("name" : Str), v)] = some v := by simp [List.lookup]
    rw [q]
    exact r
  · rw [if_neg hw]
    have q1 : (f == ("name" : Str)) = false := by simpa using hw
    have q2 : List.lookup f [(("name" : Str), v)] = none := by simp [List.lookup, q1]
    rw [q2]
    trivial
section
variable {X : Cx} {C D fI : Addr}
/-- BadName(e) -/
def tMkBad (C : Addr) (ta : TA) : L2.St → Hp → XK → Prop := fun σ H Q => ta σ H fun vs H1 => ∃ v, vs = [v] ∧ ∀ d, H1 d = none → Q (.ref C) (some d) (upd H1 d (.xd [(("name" : Str), v)]))
theorem pmk_bad {a : Expr} {ta : TA} {p pos : Pos} {k : Nat} (T : BadTxt X.prog X.K X.mg C D fI) (hr : Room k X.A) (ha : PA X [a] ta) (hg : Gl X "BadName" := by rfl)
    (he : starEach (a :: []) X.env = (false, eval a X.env) :: starEach [] X.env := by rfl) (hpl : (backTo pos (starEach [] X.env)).any (·.1) = false := by rfl) :
    PMk X (.Call (.Name "BadName" p) [a] [] pos) (tMkBad C ta) := by
  intro pins s σ H Q I h
  refine wpAny_Call_Name_kw (ld_glob I hg T.gC ?_)
  refine PySem.W.callWith_K (h₀ := X.base) I.ok.mod.kin T.kC (thn (ha.run pos pins s σ H _ I h) fun us s1 hh => ?_) he hpl
  obtain ⟨vs, H1, I1, r1, v, ev, q1⟩ := hh
  subst ev
  refine ⟨I1.kIn, ?_⟩
  cases r1 with
  | cons rv rn =>
    rename_i v' us'
    cases rn
    show wpAny _ _ (call (.ref C) [v']) _ _ _
    have kb := I1.bk
    have MO := I1.mod
    obtain ⟨hp, g, dr, tk, os⟩ := s1
    refine wpAny_call (bad_made T MO kb (by have := hr.dp; omega) fun h' tk' e d M => ?_)
    show MkP X pins σ Q (.ref e) ⟨h', g, dr, tk', os⟩
    obtain ⟨oe, fv, hoe, hc, hd, hdat, h1⟩ := M.obj
    have hns := M.ns
    obtain ⟨G', g1, g2⟩ := restrict h' fun b => decide (b ≠ e)
    have gk : ∀ b, b ≠ e → G'.get? b = h'.get? b := fun b hb => g1 b (decide_eq_true hb)
    have ge : G'.get? e = none := g2 e (by simp)
    have old : ∀ b o, hp.get? b = some o → G'.get? b = some o := fun b o q => (gk b (Nat.ne_of_lt (Nat.lt_of_lt_of_le (Heap.lt_size q) M.new))).trans (M.keep b o q)
    have ob : ObjOk X.prog X.w (upd H1 d (.xd [(("name" : Str), v)])) G' d (.xd [(("name" : Str), v)]) := ⟨_, hns.at (fun o q => (gk d M.dne).trans q), fun f => relO_bad rv f⟩
    have J : L2.Inv X pins σ (upd H1 d (.xd [(("name" : Str), v)])) ⟨G', g, dr, tk', os⟩ := I1.laid (t' := tk') old M.dbig ob
    refine ⟨e, oe, fv, ⟨G', g, dr, tk', os⟩, _, .ref C, some d, rfl, J, fun b o q => ?_, ge, hoe, ⟨hc, hd⟩, hdat, h1, ?_, rfl, I1.bare, raises_own T.exC T.tyC, q1 d (I1.hok.fresh M.dbig)⟩
    · by_cases hb : b = e
      · have q' : G'.get? b = some o := q
        rw [hb, ge] at q'
        cases q'
      · exact (gk b hb).symm.trans q
    · rw [upd_ne (Ne.symm M.dne)]
      exact I1.hok.fresh M.new
/-- raise BadName(e) -/
def tRaiseBad (C : Addr) (W : WX) (ta : TA) : TS := fun _ σ H => tMkBad C ta σ H fun cls d H' => W cls d σ H'
theorem ps_raiseBad {a : Expr} {ta : TA} {W : WX} {p pos pos2 : Pos} {k : Nat} (hc : X.calm = true) (T : BadTxt X.prog X.K X.mg C D fI) (hr : Room k X.A) (tk : Takes X W) (ha : PA X [a] ta) (hg : Gl X "BadName" := by rfl)
    (he : starEach (a :: []) X.env = (false, eval a X.env) :: starEach [] X.env := by rfl) (hpl : (backTo pos (starEach [] X.env)).any (·.1) = false := by rfl) :
    PS X (.Raise (some (.Call (.Name "BadName" p) [a] [] pos)) none pos2) (tRaiseBad C W ta) := ps_raise hc tk (pmk_bad T hr ha hg he hpl)
/-- n.name, n the exception that the suite holds -/
def tByBad (C : Addr) (a : Addr) (cls : Value) (d : Option Addr) (te : TE) : TE := fun σ H Q => te σ H fun x H1 => x = .ref a ∧ cls = .ref C ∧ ∃ (dd : Addr) (v : V), d = some dd ∧ H1 dd = some (.xd [(("name" : Str), v)]) ∧ Q v H1
theorem pe_byBad {a : Addr} {oe : Obj} {cls : Value} {d : Option Addr} {pn : List (Addr × Obj)} {e : Expr} {te : TE} {pos : Pos} (T : BadTxt X.prog X.K X.mg C D fI) (hz : Zc cls d oe) (hf : ∃ vs, oe.data = .fields vs) (he : PE (X.suite a ((a, oe) :: pn)) e te)
    (hb : attributeBase e "name" X.env (eval e X.env) = eval e X.env := by rfl) : PE (X.suite a ((a, oe) :: pn)) (.Attribute e "name" pos) (tByBad C a cls d te) := by
  refine ⟨fun pins s σ H Q I h => ?_⟩
  refine attr_of hb (thn (he.run pins s σ H _ I h) fun u s1 hh => ?_)
  obtain ⟨x, H1, I1, rx, ex, ec, dd, v, ed, ea, q⟩ := hh
  subst ex
  obtain rfl : u = Value.ref a := rx
  subst ec
  subst ed
  obtain ⟨ha, _⟩ := I1.pin (a, oe) (List.mem_append_left _ List.mem_cons_self)
  obtain ⟨vs, hd⟩ := hf
  have hx : ObjOk X.prog X.w H1 s1.heap dd (.xd [(("name" : Str), v)]) := I1.hok dd _ ea
  obtain ⟨mA, hns, hr⟩ := hx
  obtain ⟨od, ho, hl⟩ := lookIn_ns hns
  have l : List.lookup ("name" : Str) [(("name" : Str), v)] = some v := by simp [List.lookup]
  obtain ⟨u, hu, ru⟩ := RelO.some_of (v := v) (o := mA "name") (by rw [← l]; exact hr "name")
  have J : PySem.W.InstAt s1.heap a oe C (some od) := ⟨ha, hz.1, by unfold PySem.W.notCls; rw [hd] <;> rfl, by rw [hz.2]; exact ho⟩
  exact HandSPX.exc_get I1.kIn J T.ga T.gg T.exC (PySem.W.findObj_own T.hdC T.noN rfl (by rw [hl, hu])) (handed_of ru) ⟨v, H1, I1.tok _, ru, q⟩
end
end K41
set_option Elab.async false
set_option linter.all false
set_option maxRecDepth 100000
set_option maxHeartbeats 4000000
/-! L41C: the council's data in the heap; what the top has written. -/
namespace K41
open PySem PySem.Spec PyProof.Rows L2

/-! ### tuples of data: they stay -/
mutual
inductive Tp (K : PySem.W.Frag) (H : Hp) : V → PyData → Prop
  | int (i : Int) : Tp K H (.int i) (.int i)
  | str (x : Str) : Tp K H (.str x) (.str x)
  | tup {a : Addr} {xs : List V} {ds : List PyData} : SqT K H a xs → TpAll K H xs ds → Tp K H (.ref a) (.tuple ds)
inductive TpAll (K : PySem.W.Frag) (H : Hp) : List V → List PyData → Prop
  | nil : TpAll K H [] []
  | cons {v : V} {vs : List V} {d : PyData} {ds : List PyData} : Tp K H v d → TpAll K H vs ds → TpAll K H (v :: vs) (d :: ds)
end
def imm : HO → Prop
  | .tup _ => True
  | .frz _ _ => True
  | _ => False
/-- what cannot change stands -/
def Kept (H H' : Hp) : Prop := ∀ a u, imm u → H a = some u → H' a = some u
theorem Kept.refl (H : Hp) : Kept H H := fun _ _ _ h => h
theorem Kept.trans {H H1 H2 : Hp} (a : Kept H H1) (b : Kept H1 H2) : Kept H H2 := fun c u i h => b c u i (a c u i h)
theorem Kept.of_same {H H' : Hp} (s : Same H H') : Kept H H' := fun a u _ h => s a u h
/-- all but some changeable places stands -/
theorem Kept.of_but {H H' : Hp} {p : Addr → Prop} (k : ∀ b o, H b = some o → ¬ p b → H' b = some o) (hp : ∀ b o, p b → H b = some o → ¬ imm o) : Kept H H' := fun a u i h => by
  by_cases c : p a
  · exact absurd i (hp a u c h)
  · exact k a u h c
theorem Kept.sqT {K : PySem.W.Frag} {H H' : Hp} {a : Addr} {xs : List V} (k : Kept H H') (h : SqT K H a xs) : SqT K H' a xs := by
  rcases h with (h | ⟨o, h⟩) | h
  · exact .inl (.inl (k _ _ trivial h))
  · exact .inl (.inr ⟨o, k _ _ trivial h⟩)
  · exact .inr h
theorem kept_new {H : Hp} {p : Addr} {o : HO} (hp : H p = none) : Kept H (upd H p o) := fun a u _ h => by
  rw [upd_ne (ne_of_none h hp)]
  exact h
theorem kept_upd {H : Hp} {p : Addr} {o u : HO} (hp : H p = some o) (ho : ¬ imm o) : Kept H (upd H p u) := fun a v i h => by
  by_cases e : a = p
  · subst e
    rw [hp] at h
    cases h
    exact absurd i ho
  · rw [upd_ne e]
    exact h
mutual
theorem Tp.mono {K : PySem.W.Frag} {H H' : Hp} (k : Kept H H') : ∀ (d : PyData) (v : V), Tp K H v d → Tp K H' v d
  | .int i, _, h => by cases h; exact .int i
  | .str x, _, h => by cases h; exact .str x
  | .tuple ds, _, h => by
    cases h with
    | tup hs ha => exact .tup (k.sqT hs) (TpAll.mono k ds _ ha)
  | .none, _, h => by cases h
  | .bool _, _, h => by cases h
  | .list _, _, h => by cases h
  | .dict _, _, h => by cases h
theorem TpAll.mono {K : PySem.W.Frag} {H H' : Hp} (k : Kept H H') : ∀ (ds : List PyData) (vs : List V), TpAll K H vs ds → TpAll K H' vs ds
  | [], _, h => by cases h; exact .nil
  | d :: ds, _, h => by
    cases h with
    | cons h1 h2 => exact .cons (Tp.mono k d _ h1) (TpAll.mono k ds _ h2)
end
mutual
theorem Tp.dp {K : PySem.W.Frag} {H : Hp} : ∀ (d : PyData) (v : V), Tp K H v d → Dp K H v d
  | .int i, _, h => by cases h; exact .int i
  | .str x, _, h => by cases h; exact .str x
  | .tuple ds, _, h => by
    cases h with
    | tup hs ha => exact .tup hs (TpAll.dp ds _ ha)
  | .none, _, h => by cases h
  | .bool _, _, h => by cases h
  | .list _, _, h => by cases h
  | .dict _, _, h => by cases h
theorem TpAll.dp {K : PySem.W.Frag} {H : Hp} : ∀ (ds : List PyData) (vs : List V), TpAll K H vs ds → DpAll K H vs ds
  | [], _, h => by cases h; exact .nil
  | d :: ds, _, h => by
    cases h with
    | cons h1 h2 => exact .cons (Tp.dp d _ h1) (TpAll.dp ds _ h2)
end
section
variable {K : PySem.W.Frag} {H H' : Hp}
theorem Tp.at {v : V} {d : PyData} (h : Tp K H v d) (k : Kept H H') : Tp K H' v d := Tp.mono k d v h
theorem TpAll.at {vs : List V} {ds : List PyData} (h : TpAll K H vs ds) (k : Kept H H') : TpAll K H' vs ds := TpAll.mono k ds vs h
theorem tp_int {v : V} {i : Int} (h : Tp K H v (.int i)) : v = .int i := by cases h; rfl
theorem tp_str {v : V} {x : Str} (h : Tp K H v (.str x)) : v = .str x := by cases h; rfl
theorem tp_tup {v : V} {ds : List PyData} (h : Tp K H v (.tuple ds)) : ∃ a xs, v = .ref a ∧ SqT K H a xs ∧ TpAll K H xs ds := by
  cases h with
  | tup hs ha => exact ⟨_, _, rfl, hs, ha⟩
theorem tp_nil {vs : List V} (h : TpAll K H vs []) : vs = [] := by cases h; rfl
theorem tp_cons {vs : List V} {d : PyData} {ds : List PyData} (h : TpAll K H vs (d :: ds)) : ∃ v r, vs = v :: r ∧ Tp K H v d ∧ TpAll K H r ds := by
  cases h with
  | cons h1 h2 => exact ⟨_, _, rfl, h1, h2⟩
theorem TpAll.len : ∀ {vs : List V} {ds : List PyData}, TpAll K H vs ds → vs.length = ds.length
  | _, [], h => by cases h; rfl
  | _, d :: ds, h => by
    obtain ⟨v, r, rfl, _, h2⟩ := tp_cons h
    rw [List.length_cons, List.length_cons, TpAll.len h2]
theorem TpAll.get : ∀ {vs : List V} {ds : List PyData} {i : Nat} {d : PyData}, TpAll K H vs ds → ds[i]? = some d → ∃ v, vs[i]? = some v ∧ Tp K H v d
  | _, [], i, _, _, e => by simp at e
  | _, d :: ds, 0, _, h, e => by
    obtain ⟨v, r, rfl, h1, _⟩ := tp_cons h
    cases e
    exact ⟨v, rfl, h1⟩
  | _, d :: ds, i + 1, _, h, e => by
    obtain ⟨v, r, rfl, _, h2⟩ := tp_cons h
    exact TpAll.get (i := i) h2 e
theorem TpAll.getV : ∀ {vs : List V} {ds : List PyData} {i : Nat} {v : V}, TpAll K H vs ds → vs[i]? = some v → ∃ d, ds[i]? = some d ∧ Tp K H v d := fun {vs ds i v} h e => by
  have hi : i < ds.length := by rw [← h.len]; exact (List.getElem?_eq_some_iff.mp e).1
  obtain ⟨v', e', t⟩ := h.get (List.getElem?_eq_getElem hi)
  rw [e] at e'
  cases e'
  exact ⟨_, List.getElem?_eq_getElem hi, t⟩
theorem TpAll.app : ∀ {vs ws : List V} {ds es : List PyData}, TpAll K H vs ds → TpAll K H ws es → TpAll K H (vs ++ ws) (ds ++ es)
  | _, _, [], _, h, h' => by cases h; exact h'
  | _, _, d :: ds, _, h, h' => by
    obtain ⟨v, r, rfl, h1, h2⟩ := tp_cons h
    exact .cons h1 (TpAll.app h2 h')
theorem TpAll.one {v : V} {d : PyData} (h : Tp K H v d) : TpAll K H [v] [d] := .cons h .nil
theorem TpAll.take : ∀ {vs : List V} {ds : List PyData} (n : Nat), TpAll K H vs ds → TpAll K H (vs.take n) (ds.take n)
  | _, [], n, h => by cases h; simp; exact .nil
  | _, d :: ds, 0, h => by simp; exact .nil
  | _, d :: ds, n + 1, h => by
    obtain ⟨v, r, rfl, h1, h2⟩ := tp_cons h
    exact .cons h1 (TpAll.take n h2)
theorem TpAll.set : ∀ {vs : List V} {ds : List PyData} {v : V} {d : PyData} (n : Nat), TpAll K H vs ds → Tp K H v d → TpAll K H (vs.set n v) (ds.set n d)
  | _, [], _, _, n, h, _ => by cases h; simp; exact .nil
  | _, d :: ds, _, _, 0, h, t => by
    obtain ⟨v, r, rfl, h1, h2⟩ := tp_cons h
    exact .cons t h2
  | _, d :: ds, _, _, n + 1, h, t => by
    obtain ⟨v, r, rfl, h1, h2⟩ := tp_cons h
    exact .cons h1 (TpAll.set n h2 t)
end

/-! ### the council's data -/
def Ent.d : Ent → PyData
  | .num n => .int n
  | .new n => .tuple [.str "new", .int n]
  | .late => .str "late"
def Rec.d : Rec → PyData
  | .prom e => .tuple [.str "promise", .int e]
  | .take e p x => .tuple [.str "take", .int e, .int (p : Nat), x.d]
def pairD (q : Int × Ent) : PyData := .tuple [.int q.1, q.2.d]
def rowD (r : Row) : PyData := .tuple (r.map pairD)
def Let.d : Let → PyData
  | .ask e n => .tuple [.str "ask", .int e, .int (n : Nat)]
  | .write e n p x => .tuple [.str "write", .int e, .int (n : Nat), .int (p : Nat), x.d]
  | .refused e n k => .tuple [.str "refused", .int e, .int (n : Nat), .int k]
  | .told e n r => .tuple [.str "told", .int e, .int (n : Nat), rowD r]
  | .taken e n p => .tuple [.str "taken", .int e, .int (n : Nat), .int (p : Nat)]
section
variable {K : PySem.W.Frag} {H : Hp}
theorem tp2 {v : V} {a b : PyData} (h : Tp K H v (.tuple [a, b])) : ∃ p x y, v = .ref p ∧ SqT K H p [x, y] ∧ Tp K H x a ∧ Tp K H y b := by
  obtain ⟨p, xs, rfl, hs, ha⟩ := tp_tup h
  obtain ⟨x, r, rfl, h1, ha⟩ := tp_cons ha
  obtain ⟨y, r, rfl, h2, ha⟩ := tp_cons ha
  cases tp_nil ha
  exact ⟨p, x, y, rfl, hs, h1, h2⟩
theorem tp3 {v : V} {a b c : PyData} (h : Tp K H v (.tuple [a, b, c])) : ∃ p x y z, v = .ref p ∧ SqT K H p [x, y, z] ∧ Tp K H x a ∧ Tp K H y b ∧ Tp K H z c := by
  obtain ⟨p, xs, rfl, hs, ha⟩ := tp_tup h
  obtain ⟨x, r, rfl, h1, ha⟩ := tp_cons ha
  obtain ⟨y, r, rfl, h2, ha⟩ := tp_cons ha
  obtain ⟨z, r, rfl, h3, ha⟩ := tp_cons ha
  cases tp_nil ha
  exact ⟨p, x, y, z, rfl, hs, h1, h2, h3⟩
theorem tp4 {v : V} {a b c d : PyData} (h : Tp K H v (.tuple [a, b, c, d])) : ∃ p x y z u, v = .ref p ∧ SqT K H p [x, y, z, u] ∧ Tp K H x a ∧ Tp K H y b ∧ Tp K H z c ∧ Tp K H u d := by
  obtain ⟨p, xs, rfl, hs, ha⟩ := tp_tup h
  obtain ⟨x, r, rfl, h1, ha⟩ := tp_cons ha
  obtain ⟨y, r, rfl, h2, ha⟩ := tp_cons ha
  obtain ⟨z, r, rfl, h3, ha⟩ := tp_cons ha
  obtain ⟨u, r, rfl, h4, ha⟩ := tp_cons ha
  cases tp_nil ha
  exact ⟨p, x, y, z, u, rfl, hs, h1, h2, h3, h4⟩
theorem tp5 {v : V} {a b c d f : PyData} (h : Tp K H v (.tuple [a, b, c, d, f])) : ∃ p x y z u t, v = .ref p ∧ SqT K H p [x, y, z, u, t] ∧ Tp K H x a ∧ Tp K H y b ∧ Tp K H z c ∧ Tp K H u d ∧ Tp K H t f := by
  obtain ⟨p, xs, rfl, hs, ha⟩ := tp_tup h
  obtain ⟨x, r, rfl, h1, ha⟩ := tp_cons ha
  obtain ⟨y, r, rfl, h2, ha⟩ := tp_cons ha
  obtain ⟨z, r, rfl, h3, ha⟩ := tp_cons ha
  obtain ⟨u, r, rfl, h4, ha⟩ := tp_cons ha
  obtain ⟨t, r, rfl, h5, ha⟩ := tp_cons ha
  cases tp_nil ha
  exact ⟨p, x, y, z, u, t, rfl, hs, h1, h2, h3, h4, h5⟩
theorem tp_prom {v : V} {e : Int} (h : Tp K H v (Rec.prom e).d) : ∃ p, v = .ref p ∧ SqT K H p [.str "promise", .int e] := by
  obtain ⟨p, x, y, rfl, hs, h1, h2⟩ := tp2 h
  cases tp_str h1
  cases tp_int h2
  exact ⟨p, rfl, hs⟩
theorem tp_take {v : V} {e : Int} {n : Nat} {x : Ent} (h : Tp K H v (Rec.take e n x).d) : ∃ p u, v = .ref p ∧ SqT K H p [.str "take", .int e, .int (n : Nat), u] ∧ Tp K H u x.d := by
  obtain ⟨p, x, y, z, u, rfl, hs, h1, h2, h3, h4⟩ := tp4 h
  cases tp_str h1
  cases tp_int h2
  cases tp_int h3
  exact ⟨p, u, rfl, hs, h4⟩
theorem tp_pair {v : V} {q : Int × Ent} (h : Tp K H v (pairD q)) : ∃ p u, v = .ref p ∧ SqT K H p [.int q.1, u] ∧ Tp K H u q.2.d := by
  obtain ⟨p, x, y, rfl, hs, h1, h2⟩ := tp2 h
  cases tp_int h1
  exact ⟨p, y, rfl, hs, h2⟩
theorem mk2 {p : Addr} {x y : V} {a b : PyData} (hs : SqT K H p [x, y]) (h1 : Tp K H x a) (h2 : Tp K H y b) : Tp K H (.ref p) (.tuple [a, b]) := .tup hs (.cons h1 (.cons h2 .nil))
theorem mk3 {p : Addr} {x y z : V} {a b c : PyData} (hs : SqT K H p [x, y, z]) (h1 : Tp K H x a) (h2 : Tp K H y b) (h3 : Tp K H z c) : Tp K H (.ref p) (.tuple [a, b, c]) := .tup hs (.cons h1 (.cons h2 (.cons h3 .nil)))
theorem mk4 {p : Addr} {x y z u : V} {a b c d : PyData} (hs : SqT K H p [x, y, z, u]) (h1 : Tp K H x a) (h2 : Tp K H y b) (h3 : Tp K H z c) (h4 : Tp K H u d) : Tp K H (.ref p) (.tuple [a, b, c, d]) :=
  .tup hs (.cons h1 (.cons h2 (.cons h3 (.cons h4 .nil))))
theorem mk5 {p : Addr} {x y z u t : V} {a b c d f : PyData} (hs : SqT K H p [x, y, z, u, t]) (h1 : Tp K H x a) (h2 : Tp K H y b) (h3 : Tp K H z c) (h4 : Tp K H u d) (h5 : Tp K H t f) : Tp K H (.ref p) (.tuple [a, b, c, d, f]) :=
  .tup hs (.cons h1 (.cons h2 (.cons h3 (.cons h4 (.cons h5 .nil)))))
end

/-! ### equal data -/
theorem eqv_str (x y : Str) : PyData.eqv (.str x) (.str y) = decide (x = y) := by
  simp only [PyData.eqv]
  by_cases e : x = y
  · subst e
    simp
  · rw [decide_eq_false e]
    simpa using e
theorem eqv_int (i j : Int) : PyData.eqv (.int i) (.int j) = decide (i = j) := by
  simp only [PyData.eqv]
  by_cases e : i = j
  · subst e
    simp
  · rw [decide_eq_false e]
    simpa using e
theorem eqv_tup2 (a b c d : PyData) : PyData.eqv (.tuple [a, b]) (.tuple [c, d]) = (PyData.eqv a c && PyData.eqv b d) := by
  simp only [PyData.eqv, PyData.eqvAll, Bool.and_true]
theorem ent_eqv (x y : Ent) : PyData.eqv x.d y.d = decide (x = y) := by
  cases x with
  | num n =>
    cases y with
    | num k =>
      rw [show (Ent.num n).d = .int n from rfl, show (Ent.num k).d = .int k from rfl, eqv_int]
      exact decide_eq_decide.mpr ⟨fun h => by rw [h], fun h => by cases h; rfl⟩
    | new k => rw [decide_eq_false (by simp)]; rfl
    | late => rw [decide_eq_false (by simp)]; rfl
  | new n =>
    cases y with
    | num k => rw [decide_eq_false (by simp)]; rfl
    | new k =>
      rw [show (Ent.new n).d = .tuple [.str "new", .int n] from rfl, show (Ent.new k).d = .tuple [.str "new", .int k] from rfl, eqv_tup2, eqv_str, eqv_int, decide_eq_true rfl, Bool.true_and]
      exact decide_eq_decide.mpr ⟨fun h => by rw [h], fun h => by cases h; rfl⟩
    | late => rw [decide_eq_false (by simp)]; rfl
  | late =>
    cases y with
    | num k => rw [decide_eq_false (by simp)]; rfl
    | new k => rw [decide_eq_false (by simp)]; rfl
    | late => rw [show (Ent.late).d = .str "late" from rfl, eqv_str, decide_eq_true rfl, decide_eq_true rfl]
theorem pair_eqv (q r : Int × Ent) : PyData.eqv (pairD q) (pairD r) = decide (q = r) := by
  unfold pairD
  rw [eqv_tup2, eqv_int, ent_eqv]
  by_cases h : q = r
  · subst h
    simp
  · rw [decide_eq_false h]
    by_cases c : q.1 = r.1
    · have : ¬ q.2 = r.2 := fun z => h (Prod.ext c z)
      rw [decide_eq_false this, Bool.and_false]
    · rw [decide_eq_false c, Bool.false_and]
theorem rec_eqv (r s : Rec) : PyData.eqv r.d s.d = decide (r = s) := by
  cases r with
  | prom e =>
    cases s with
    | prom f =>
      rw [show (Rec.prom e).d = .tuple [.str "promise", .int e] from rfl, show (Rec.prom f).d = .tuple [.str "promise", .int f] from rfl, eqv_tup2, eqv_str, eqv_int, decide_eq_true rfl, Bool.true_and]
      exact decide_eq_decide.mpr ⟨fun h => by rw [h], fun h => by cases h; rfl⟩
    | take f p x =>
      rw [decide_eq_false (by simp)]
      show PyData.eqv (.tuple [.str "promise", .int e]) (.tuple [.str "take", .int f, .int (p : Nat), x.d]) = false
      simp only [PyData.eqv, PyData.eqvAll]
      simp
  | take e p x =>
    cases s with
    | prom f =>
      rw [decide_eq_false (by simp)]
      show PyData.eqv (.tuple [.str "take", .int e, .int (p : Nat), x.d]) (.tuple [.str "promise", .int f]) = false
      simp only [PyData.eqv, PyData.eqvAll]
      simp
    | take f q y =>
      have e1 : PyData.eqv (Rec.take e p x).d (Rec.take f q y).d = (PyData.eqv (.int e) (.int f) && (PyData.eqv (.int (p : Nat)) (.int (q : Nat)) && PyData.eqv x.d y.d)) := by
        show PyData.eqv (.tuple [.str "take", .int e, .int (p : Nat), x.d]) (.tuple [.str "take", .int f, .int (q : Nat), y.d]) = _
        simp only [PyData.eqv, PyData.eqvAll, Bool.and_true]
        simp
      rw [e1, eqv_int, eqv_int, ent_eqv]
      by_cases h1 : e = f
      · by_cases h2 : p = q
        · by_cases h3 : x = y
          · subst h1 h2 h3
            simp
          · rw [decide_eq_false h3, Bool.and_false, Bool.and_false, decide_eq_false (fun z => h3 (by cases z; rfl))]
        · rw [decide_eq_false (show ¬ ((p : Nat) : Int) = (q : Nat) from by omega), Bool.false_and, Bool.and_false, decide_eq_false (fun z => h2 (by cases z; rfl))]
      · rw [decide_eq_false h1, Bool.false_and, decide_eq_false (fun z => h1 (by cases z; rfl))]
end K41
set_option Elab.async false
set_option linter.all false
set_option maxRecDepth 100000
set_option maxHeartbeats 4000000
/-! L41D: data is of small depth; the places of the defs; what the top has written; a record's defs. -/
namespace K41
open PySem PySem.Spec PyProof.Rows L2

theorem ok_new : PyData.strOk ("new" : Str) = true := by decide +kernel
theorem ok_late : PyData.strOk ("late" : Str) = true := by decide +kernel
theorem ok_promise : PyData.strOk ("promise" : Str) = true := by decide +kernel
theorem ok_take : PyData.strOk ("take" : Str) = true := by decide +kernel
theorem ent_lay (x : Ent) : x.d.canLay0 = true := by cases x <;> simp [Ent.d, PyData.canLay0, PyData.canLayAll0, ok_new, ok_late]
theorem ent_depth (x : Ent) : x.d.depth ≤ 1 := by cases x <;> simp [Ent.d, PyData.depth, PyData.depthAll]
theorem rec_lay (r : Rec) : r.d.canLay0 = true := by
  cases r with
  | prom e => simp [Rec.d, PyData.canLay0, PyData.canLayAll0, ok_promise]
  | take e p x => simp [Rec.d, PyData.canLay0, PyData.canLayAll0, ent_lay, ok_take]
theorem rec_depth (r : Rec) : r.d.depth ≤ 2 := by
  cases r with
  | prom e => simp [Rec.d, PyData.depth, PyData.depthAll]
  | take e p x =>
    have := ent_depth x
    simp [Rec.d, PyData.depth, PyData.depthAll]
    omega
theorem pair_lay (q : Int × Ent) : (pairD q).canLay0 = true := by simp [pairD, PyData.canLay0, PyData.canLayAll0, ent_lay]
theorem pair_depth (q : Int × Ent) : (pairD q).depth ≤ 2 := by
  have := ent_depth q.2
  simp [pairD, PyData.depth, PyData.depthAll]
  omega
theorem all_lay {α : Type} {f : α → PyData} (h : ∀ a, (f a).canLay0 = true) : ∀ l : List α, PyData.canLayAll0 (l.map f) = true
  | [] => by simp [PyData.canLayAll0]
  | a :: l => by simp [PyData.canLayAll0, h a, all_lay h l]
theorem all_depth {α : Type} {f : α → PyData} {n : Nat} (h : ∀ a, (f a).depth ≤ n) : ∀ l : List α, PyData.depthAll (l.map f) ≤ n
  | [] => by simp [PyData.depthAll]
  | a :: l => by
    have h1 := h a
    have h2 := all_depth h l
    simp only [List.map_cons, PyData.depthAll]
    omega
theorem shaped_of {d : PyData} (h1 : d.canLay0 = true) (h2 : d.depth ≤ 64) : SeqAt.shaped d = true := by
  show (d.canLay0 && decide (d.depth ≤ 64)) = true
  rw [Bool.and_eq_true]
  exact ⟨h1, decide_eq_true h2⟩
theorem ent_shaped (x : Ent) : SeqAt.shaped x.d = true := shaped_of (ent_lay x) (by have := ent_depth x; omega)
theorem rec_shaped (r : Rec) : SeqAt.shaped r.d = true := shaped_of (rec_lay r) (by have := rec_depth r; omega)
theorem pair_shaped (q : Int × Ent) : SeqAt.shaped (pairD q) = true := shaped_of (pair_lay q) (by have := pair_depth q; omega)
theorem lst_shaped {α : Type} {f : α → PyData} {n : Nat} (h1 : ∀ a, (f a).canLay0 = true) (h2 : ∀ a, (f a).depth ≤ n) (hn : n ≤ 60) (l : List α) : SeqAt.shaped (.list (l.map f)) = true :=
  shaped_of (by simp only [PyData.canLay0]; exact all_lay h1 l) (by have := all_depth h2 l; simp only [PyData.depth]; omega)
theorem tup_shaped {α : Type} {f : α → PyData} {n : Nat} (h1 : ∀ a, (f a).canLay0 = true) (h2 : ∀ a, (f a).depth ≤ n) (hn : n ≤ 60) (l : List α) : SeqAt.shaped (.tuple (l.map f)) = true :=
  shaped_of (by simp only [PyData.canLay0]; exact all_lay h1 l) (by have := all_depth h2 l; simp only [PyData.depth]; omega)
theorem ents_eqvAll : ∀ xs ys : List Ent, PyData.eqvAll (xs.map Ent.d) (ys.map Ent.d) = decide (xs = ys)
  | [], [] => by simp [PyData.eqvAll]
  | [], y :: ys => by simp [PyData.eqvAll]
  | x :: xs, [] => by simp [PyData.eqvAll]
  | x :: xs, y :: ys => by
    simp only [List.map_cons, PyData.eqvAll, ent_eqv, ents_eqvAll xs ys]
    by_cases h1 : x = y
    · by_cases h2 : xs = ys
      · subst h1 h2
        simp
      · simp [h2]
    · simp [h1]
theorem ents_eqv (xs ys : List Ent) : PyData.eqv (.tuple (xs.map Ent.d)) (.tuple (ys.map Ent.d)) = decide (xs = ys) := by
  simp only [PyData.eqv]
  exact ents_eqvAll xs ys
theorem recs_any (r : Rec) : ∀ rs : List Rec, ((rs.map Rec.d).any fun z => PyData.eqv z r.d) = decide (r ∈ rs)
  | [] => by simp
  | s :: rs => by
    rw [List.map_cons, List.any_cons, rec_eqv, recs_any r rs]
    by_cases h1 : s = r
    · subst h1
      simp
    · have : ¬ r = s := fun z => h1 z.symm
      simp [h1, this]
theorem ents_any (x : Ent) : ∀ xs : List Ent, ((xs.map Ent.d).any fun z => PyData.eqv z x.d) = decide (x ∈ xs)
  | [] => by simp
  | s :: rs => by
    rw [List.map_cons, List.any_cons, ent_eqv, ents_any x rs]
    by_cases h1 : s = x
    · subst h1
      simp
    · have : ¬ x = s := fun z => h1 z.symm
      simp [h1, this]

/-! ### the defs, by their places in the text -/
abbrev sWhole : Stmt := top 5
abbrev sRec (j : Nat) : Stmt := inClass (top 7) j
abbrev sKee (j : Nat) : Stmt := inClass (top 8) j
abbrev sMost : Stmt := top 9
abbrev sTakers : Stmt := top 10
abbrev sSetAt : Stmt := top 11
abbrev sSetRow : Stmt := top 12
abbrev sNewest : Stmt := top 17
abbrev sSeq (j : Nat) : Stmt := inClass (top 18) j
abbrev sCou (j : Nat) : Stmt := inClass (top 21) j
abbrev sNum : Stmt := top 23
abbrev sTake : Stmt := top 24
abbrev sPick : Stmt := top 25
abbrev sLaw : Stmt := top 26
/-- where the classes and the defs stand -/
structure Ad where
  (cR cK cS cC cB cD : Addr)
  (rInit rPut rFits : Addr)
  (kInit kKept kHandle kTake kFlush : Addr)
  (whole most takers setAt setRow newest : Addr)
  (sInit sSend sHear sAdd sSettled : Addr)
  (cInit cBegin cSend cDeliver cFlush cExch cSettled : Addr)
  (num take pick bInit : Addr)
/-- a def of the text that stands at f, and how its arguments bind -/
def FB (K : PySem.W.Frag) (x qual : Str) (st : Stmt) (f : Addr) (ps : List Str) : Prop := ∃ fd, Fun K x qual st f fd ∧ Binds K fd ps []
def HasStr (mg : Str → Option Value) (x s : Str) : Prop := ∃ t, mg x = some (.str s t)
/-- what the top has written -/
structure Txt (P : Program) (K : PySem.W.Frag) (mg : Str → Option Value) (a : Ad) : Prop where
  clR : Cls K a.cR
  clK : Cls K a.cK
  clS : Cls K a.cS
  clC : Cls K a.cC
  mkR : Mk K a.cR a.rInit
  mkK : Mk K a.cK a.kInit
  mkS : Mk K a.cS a.sInit
  mkC : Mk K a.cC a.cInit
  gR : mg "Record" = some (.ref a.cR)
  gK : mg "Keeper" = some (.ref a.cK)
  gS : mg "Sequencer" = some (.ref a.cS)
  gC : mg "Council" = some (.ref a.cC)
  nRe : NoAttr K a.cR "epoch"
  nRr : NoAttr K a.cR "row"
  nKn : NoAttr K a.cK "number"
  nKr : NoAttr K a.cK "records"
  nKl : NoAttr K a.cK "loose"
  nKw : NoAttr K a.cK "waiting"
  nSe : NoAttr K a.cS "epoch"
  nSm : NoAttr K a.cS "many"
  nSs : NoAttr K a.cS "stand"
  nSr : NoAttr K a.cS "rows"
  nSw : NoAttr K a.cS "row"
  nSt : NoAttr K a.cS "taken"
  nCk : NoAttr K a.cC "keepers"
  nCs : NoAttr K a.cC "sequencers"
  nCl : NoAttr K a.cC "letters"
  sob : PySem.W.mroIn K a.cS (.type "object") = some true
  seq : PySem.W.findIn K (.ref a.cS) "__eq__" = some (some (.builtin "object.__eq__"))
  rInit : FB K "__init__" "Record.__init__" (sRec 0) a.rInit ["self", "records"]
  rPut : FB K "put" "Record.put" (sRec 1) a.rPut ["self", "record"]
  rFits : FB K "fits" "Record.fits" (sRec 2) a.rFits ["self", "epoch", "place"]
  kInit : FB K "__init__" "Keeper.__init__" (sKee 0) a.kInit ["self", "number"]
  kKept : FB K "kept" "Keeper.kept" (sKee 1) a.kKept ["self"]
  kHandle : FB K "handle" "Keeper.handle" (sKee 2) a.kHandle ["self", "letter"]
  kTake : FB K "take" "Keeper.take" (sKee 3) a.kTake ["self", "known", "epoch", "place", "entry"]
  kFlush : FB K "flush" "Keeper.flush" (sKee 4) a.kFlush ["self"]
  whole : FB K "is_whole" "is_whole" sWhole a.whole ["thing", "low", "high"]
  most : FB K "most_of" "most_of" sMost a.most ["many"]
  takers : FB K "takers" "takers" sTakers a.takers ["keepers", "epoch", "place", "entry"]
  setAt : FB K "settled_at" "settled_at" sSetAt a.setAt ["keepers", "place"]
  setRow : FB K "settled_row" "settled_row" sSetRow a.setRow ["keepers"]
  newest : FB K "newest_row" "newest_row" sNewest a.newest ["rows"]
  sInit : FB K "__init__" "Sequencer.__init__" (sSeq 0) a.sInit ["self", "epoch", "many"]
  sSend : FB K "to_send" "Sequencer.to_send" (sSeq 1) a.sSend ["self"]
  sHear : FB K "hear" "Sequencer.hear" (sSeq 2) a.sHear ["self", "letter"]
  sAdd : FB K "add" "Sequencer.add" (sSeq 3) a.sAdd ["self", "entry"]
  sSettled : FB K "settled" "Sequencer.settled" (sSeq 4) a.sSettled ["self"]
  cInit : FB K "__init__" "Council.__init__" (sCou 0) a.cInit ["self", "many"]
  cBegin : FB K "begin" "Council.begin" (sCou 1) a.cBegin ["self", "epoch"]
  cSend : FB K "send" "Council.send" (sCou 2) a.cSend ["self", "number"]
  cDeliver : FB K "deliver" "Council.deliver" (sCou 3) a.cDeliver ["self", "at", "is_kept"]
  cFlush : FB K "flush" "Council.flush" (sCou 5) a.cFlush ["self", "number"]
  cExch : FB K "exchange" "Council.exchange" (sCou 8) a.cExch ["self", "number", "up"]
  cSettled : FB K "settled" "Council.settled" (sCou 9) a.cSettled ["self"]
  num : FB K "_law_number" "_law_number" sNum a.num ["_law_script", "_law_index"]
  take : FB K "_law_take" "_law_take" sTake a.take ["_law_draw", "_law_many"]
  pick : FB K "_law_pick" "_law_pick" sPick a.pick ["_law_draw", "_law_items"]
  mPut : Meth K a.cR "put" a.rPut
  mFits : Meth K a.cR "fits" a.rFits
  mKept : Meth K a.cK "kept" a.kKept
  mHandle : Meth K a.cK "handle" a.kHandle
  mTake : Meth K a.cK "take" a.kTake
  mKFlush : Meth K a.cK "flush" a.kFlush
  mSend : Meth K a.cS "to_send" a.sSend
  mHear : Meth K a.cS "hear" a.sHear
  mAdd : Meth K a.cS "add" a.sAdd
  mSSettled : Meth K a.cS "settled" a.sSettled
  mBegin : Meth K a.cC "begin" a.cBegin
  mCSend : Meth K a.cC "send" a.cSend
  mDeliver : Meth K a.cC "deliver" a.cDeliver
  mCFlush : Meth K a.cC "flush" a.cFlush
  mExch : Meth K a.cC "exchange" a.cExch
  mCSettled : Meth K a.cC "settled" a.cSettled
  gWhole : mg "is_whole" = some (.ref a.whole)
  gMost : mg "most_of" = some (.ref a.most)
  gTakers : mg "takers" = some (.ref a.takers)
  gSetAt : mg "settled_at" = some (.ref a.setAt)
  gSetRow : mg "settled_row" = some (.ref a.setRow)
  gNewest : mg "newest_row" = some (.ref a.newest)
  gNum : mg "_law_number" = some (.ref a.num)
  gTake : mg "_law_take" = some (.ref a.take)
  gPick : mg "_law_pick" = some (.ref a.pick)
  gAsk : HasStr mg "ASKING" "asking"
  gLead : HasStr mg "LEADING" "leading"
  gStop : HasStr mg "STOPPED" "stopped"
  gMostE : ∃ t, mg "MOST_EPOCH" = some (.int 999999999999 t)
  nLen : mg "len" = none
  nMax : mg "max" = none
  nRange : mg "range" = none
  nTuple : mg "tuple" = none
  nList : mg "list" = none
  nSorted : mg "sorted" = none
  nIsi : mg "isinstance" = none
  nInt : mg "int" = none
  nBool : mg "bool" = none
  nAbs : mg "abs" = none
  bad : BadTxt P K mg a.cB a.cD a.bInit
  te : PySem.W.exmOne K (.ref a.cB) (.ref a.cB) = some true

/-! ### a record -/
/-- a Record at a, its row's list at l -/
def RecAt (K : PySem.W.Frag) (C : Addr) (H : Hp) (a l : Addr) (q : Kn) : Prop :=
  ∃ dx xs, H a = some (.ins C dx [(("epoch" : Str), .int q.ep), ("row", .ref l)]) ∧ H l = some (.lst xs) ∧ TpAll K H xs (q.row.map pairD)
def spPut (K : PySem.W.Frag) (C : Addr) : Sp := fun vs H Q _ => ∃ (p l : Addr) (q : Kn) (v : V) (r : Rec), vs = [.ref p, v] ∧ RecAt K C H p l q ∧ Tp K H v r.d ∧ q.row.length ≤ 1000000 ∧
  ∀ H' : Hp, RecAt K C H' p l (q.put r) → (∀ b o, H b = some o → b ≠ p → b ≠ l → H' b = some o) → Q .non H'
def spFits (K : PySem.W.Frag) (C : Addr) : Sp := fun vs H Q _ => ∃ (p l : Addr) (q : Kn) (e : Int) (n : Nat), vs = [.ref p, .int e, .int (n : Nat)] ∧ RecAt K C H p l q ∧ Q (.bl (fits q e n)) H
def spRInit (K : PySem.W.Frag) (C : Addr) : Sp := fun vs H Q _ => ∃ (p dx t : Addr) (xs : List V) (rs : List Rec), vs = [.ref p, .ref t] ∧ H p = some (.ins C dx []) ∧ SqT K H t xs ∧ TpAll K H xs (rs.map Rec.d) ∧ rs.length ≤ 1000000 ∧
  ∀ (l : Addr) (H' : Hp), RecAt K C H' p l (knOf rs) → H l = none → (∀ b o, H b = some o → b ≠ p → H' b = some o) → Q .non H'

section
variable {P : Program} {w : World} {K : PySem.W.Frag} {mg : Str → Option Value} {base : Heap} {a : Ad}
theorem line_of {n : Nat} (h : n ≤ 2000000) : n < sizeLine := by rw [sizeLine_eq]; omega
theorem scPut : FnScope ["self", "record", "pair"] ["self", "record"] (defScope (sRec 1)) := ⟨rfl, rfl, rfl, by decide +kernel, rfl, by decide +kernel, by decide +kernel⟩
theorem g_put (T : Txt P K mg a) : ∃ fd, FnOk P w K mg base CX0 1 a.rPut fd ["self", "record"] (spPut K a.cR) ∧ Binds K fd ["self", "record"] [] := by
  obtain ⟨fd, F, b⟩ := T.rPut
  refine ⟨fd, F.ok scPut (fun vs H Q E h => ?_) (fun cdv A outer s H vs Q E hr h => ?_), b⟩
  · obtain ⟨p, l, q, v, r, rfl, _⟩ := h
    rfl
  · obtain ⟨p, l, q, v, r, rfl, ⟨dx, xs, hp, hl, ht⟩, hv, hlen, k⟩ := h
    have npl : p ≠ l := ne_of hp hl (by intro z; cases z)
    have hxl := ht.len
    rw [List.length_map] at hxl
    -- self.epoch = max(self.epoch, record[1]); if record[0] == "take": ..
    refine ⟨_, pss_cons (ps_fld (pv 0) (pe_callB (call_max2 rfl) rfl T.nMax (by decide +kernel) (pa_cons (pe_fld (pv 0) rfl) (pa_cons (pe_ix ix_tup (pv 1) pe_int (fun _ _ => rfl)) pa_nil))) rfl)
      (pss_one (ps_if (pt_cmpR op_eq (pe_ix ix_tup (pv 1) pe_int (fun _ _ => rfl)) pe_str (nomark _))
        (pss_cons (ps_set (i := 2) scPut.nd rfl (Or.inl rfl) (pe_tup (pa_cons (pe_ix ix_tup (pv 1) pe_int (fun _ _ => rfl)) (pa_cons (pe_ix ix_tup (pv 1) pe_int (fun _ _ => rfl)) pa_nil))))
          (pss_one (ps_if (pt_cmpR op_lt (pe_ix ix_tup (pv 1) pe_int (fun _ _ => rfl)) (pe_callB call_len_seq rfl T.nLen PySem.boot_len (pa_cons (pe_fld (pv 0) rfl) pa_nil)) (nomark _))
            (pss_one (ps_asg (pv 2) (pg_sub (pe_fld (pv 0) rfl) (pe_ix ix_tup (pv 1) pe_int (fun _ _ => rfl)) set_list)))
            (pss_one (ps_expr (pe_bm PySem.F.plainAttrs_list PySem.F.slot_list_append PySem.F.type_list_append mt_append (pe_fld (pv 0) rfl) (pa_cons (pv 2) pa_nil)))))))
        pss_nil)), ?_⟩
    cases r with
    | prom e =>
      obtain ⟨t, rfl, hs⟩ := tp_prom hv
      refine ⟨_, rfl, p, _, dx, _, _, rfl, hp, T.clR, T.nRe, rfl, _, rfl, t, _, 1, _, rfl, rfl, hs, rfl, _, _, rfl, _, rfl, p, _, dx, _, rfl, hp, T.clR, T.nRe, (by show 2 < 1000; decide), ?_⟩
      have kk : Kept H (upd H p (.ins a.cR dx [(("epoch" : Str), V.int (if e > q.ep then e else q.ep)), ("row", .ref l)])) := kept_upd hp (fun z => z)
      refine ⟨_, rfl, t, _, 0, _, rfl, rfl, kk.sqT hs, rfl, rfl, _, rfl, iteF ?_⟩
      refine k _ ⟨dx, xs, upd_same, by rw [upd_ne npl.symm]; exact hl, ht.at kk⟩ fun b o hb n1 n2 => by rw [upd_ne n1]; exact hb
    | take e n x =>
      obtain ⟨t, u, rfl, hs, hu⟩ := tp_take hv
      refine ⟨_, rfl, p, _, dx, _, _, rfl, hp, T.clR, T.nRe, rfl, _, rfl, t, _, 1, _, rfl, rfl, hs, rfl, _, _, rfl, _, rfl, p, _, dx, _, rfl, hp, T.clR, T.nRe, (by show 2 < 1000; decide), ?_⟩
      have kk : Kept H (upd H p (.ins a.cR dx [(("epoch" : Str), V.int (if e > q.ep then e else q.ep)), ("row", .ref l)])) := kept_upd hp (fun z => z)
      refine ⟨_, rfl, t, _, 0, _, rfl, rfl, kk.sqT hs, rfl, rfl, _, rfl, iteT ?_⟩
      refine ⟨_, rfl, t, _, 1, _, rfl, rfl, kk.sqT hs, rfl, _, rfl, t, _, 3, _, rfl, rfl, kk.sqT hs, rfl, (by show 2 ≤ sizeLine; decide), fun c hc => ?_⟩
      have kc := kept_new (o := .tup [V.int e, u]) hc
      have hc0 : H c = none := by
        by_cases z : c = p
        · rw [z, upd_same] at hc
          cases hc
        · rw [upd_ne z] at hc
          exact hc
      have npc : p ≠ c := ne_of_none hp hc0
      have nlc : l ≠ c := ne_of_none hl hc0
      have hl1 : (upd (upd H p (.ins a.cR dx [(("epoch" : Str), V.int (if e > q.ep then e else q.ep)), ("row", .ref l)])) c (.tup [V.int e, u])) l = some (.lst xs) := by rw [upd_ne nlc, upd_ne npl.symm]; exact hl
      have hp1 : (upd (upd H p (.ins a.cR dx [(("epoch" : Str), V.int (if e > q.ep then e else q.ep)), ("row", .ref l)])) c (.tup [V.int e, u])) p = some (.ins a.cR dx [(("epoch" : Str), V.int (if e > q.ep then e else q.ep)), ("row", .ref l)]) := by rw [upd_ne npc, upd_same]
      have tc : Tp K (upd (upd H p (.ins a.cR dx [(("epoch" : Str), V.int (if e > q.ep then e else q.ep)), ("row", .ref l)])) c (.tup [V.int e, u])) (.ref c) (pairD (e, x)) := mk2 (SqT.of upd_same) (.int e) ((hu.at kk).at kc)
      have kt := kk.trans kc
      refine ⟨_, rfl, t, _, 2, _, rfl, rfl, kc.sqT (kk.sqT hs), rfl, _, rfl, p, _, dx, _, _, rfl, hp1, T.clR, T.nRr, rfl, l, _, rfl, .inl (SqL.of hl1), _, _, rfl, rfl, _, rfl, ?_⟩
      have keep : ∀ (o : HO) b o', H b = some o' → b ≠ p → b ≠ l → upd (upd (upd H p (.ins a.cR dx [(("epoch" : Str), V.int (if e > q.ep then e else q.ep)), ("row", .ref l)])) c (.tup [V.int e, u])) l o b = some o' := fun o b o' hb n1 n2 => by
        rw [upd_ne n2, upd_ne (ne_of_none hb hc0), upd_ne n1]
        exact hb
      by_cases lt : n < q.row.length
      · rw [decide_eq_true (show ((n : Nat) : Int) < ((xs.length : Nat) : Int) by omega)]
        refine iteT ?_
        refine ⟨_, rfl, _, rfl, p, _, dx, _, _, rfl, hp1, T.clR, T.nRr, rfl, _, rfl, t, _, 2, _, rfl, rfl, kc.sqT (kk.sqT hs), rfl, l, _, _, n, rfl, rfl, hl1, ?_, ?_⟩
        · unfold ixN
          rw [if_pos (by omega), if_pos (by omega)]
          rfl
        · have k2 := kept_upd (u := .lst (xs.set n (.ref c))) hl1 (fun z => z)
          refine k _ ⟨dx, xs.set n (.ref c), by rw [upd_ne npl]; exact hp1, upd_same, ?_⟩ (keep _)
          show TpAll K _ _ ((if n < q.row.length then q.row.set n (e, x) else q.row ++ [(e, x)]).map pairD)
          rw [if_pos lt, List.map_set]
          exact ((ht.at kt).at k2).set n (tc.at k2)
      · rw [decide_eq_false (show ¬ ((n : Nat) : Int) < ((xs.length : Nat) : Int) by omega)]
        refine iteF ?_
        refine ⟨_, rfl, p, _, dx, _, _, rfl, hp1, T.clR, T.nRr, rfl, .inl ⟨rfl, _, SqL.of hl1⟩, _, rfl, l, _, _, rfl, rfl, hl1, line_of (by omega), ?_⟩
        have k2 := kept_upd (u := .lst (xs ++ [.ref c])) hl1 (fun z => z)
        refine k _ ⟨dx, xs ++ [.ref c], by rw [upd_ne npl]; exact hp1, upd_same, ?_⟩ (keep _)
        show TpAll K _ _ ((if n < q.row.length then q.row.set n (e, x) else q.row ++ [(e, x)]).map pairD)
        rw [if_neg lt, List.map_append]
        exact ((ht.at kt).at k2).app (.one (tc.at k2))
theorem scFits : FnScope ["self", "epoch", "place"] ["self", "epoch", "place"] (defScope (sRec 2)) := ⟨rfl, rfl, rfl, by decide +kernel, rfl, by decide +kernel, by decide +kernel⟩
theorem g_fits (T : Txt P K mg a) : ∃ fd, FnOk P w K mg base CX0 1 a.rFits fd ["self", "epoch", "place"] (spFits K a.cR) ∧ Binds K fd ["self", "epoch", "place"] [] := by
  obtain ⟨fd, F, b⟩ := T.rFits
  refine ⟨fd, F.ok scFits (fun vs H Q E h => ?_) (fun cdv A outer s H vs Q E hr h => ?_), b⟩
  · obtain ⟨p, l, q, e, n, rfl, _⟩ := h
    rfl
  · obtain ⟨p, l, q, e, n, rfl, ⟨dx, xs, hp, hl, ht⟩, k⟩ := h
    have hxl := ht.len
    rw [List.length_map] at hxl
    -- if place > len(self.row): return False; return place == 0 or self.row[place - 1][0] == epoch
    refine ⟨_, pss_cons (ps_if (pt_cmpR op_gt (pv 2) (pe_callB call_len_seq rfl T.nLen PySem.boot_len (pa_cons (pe_fld (pv 0) rfl) pa_nil)) (nomark _)) (pss_one (ps_ret pe_bl)) pss_nil)
      (pss_one (ps_ret (pe_or (pe_cmpR op_eq (pv 2) pe_int (nomark _)) (pe_one (pe_cmpR op_eq (pe_ix ix_tup (pe_ix ix_list (pe_fld (pv 0) rfl) (pe_op op_sub (pv 2) pe_int) (fun _ _ => rfl)) pe_int (fun _ _ => rfl)) (pv 1) (nomark _)))))), ?_⟩
    refine ⟨_, rfl, _, rfl, p, _, dx, _, _, rfl, hp, T.clR, T.nRr, rfl, l, _, rfl, .inl (SqL.of hl), _, _, rfl, rfl, _, rfl, ?_⟩
    by_cases c : n ≤ q.row.length
    · rw [decide_eq_false (show ¬ ((xs.length : Nat) : Int) < ((n : Nat) : Int) by omega)]
      refine iteF ?_
      refine ⟨_, rfl, rfl, _, rfl, ?_⟩
      by_cases z : n = 0
      · subst z
        refine iteT ?_
        have : fits q e 0 = true := by unfold fits; simp
        rw [this] at k
        exact k
      · have hne : decide (V.int ((n : Nat) : Int) = V.int 0) = false := decide_eq_false (fun h => z (by injection h with h; omega))
        rw [hne]
        refine iteF ?_
        obtain ⟨y, hy⟩ : ∃ y, q.row[n - 1]? = some y := ⟨_, List.getElem?_eq_getElem (by omega)⟩
        obtain ⟨v, hv, tv⟩ := ht.get (i := n - 1) (d := pairD y) (by rw [List.getElem?_map, hy]; rfl)
        obtain ⟨t, u, rfl, hs, hu⟩ := tp_pair tv
        refine ⟨_, rfl, p, _, dx, _, _, rfl, hp, T.clR, T.nRr, rfl, _, rfl, _, _, rfl, rfl, l, _, _, _, rfl, rfl, SqL.of hl, at_of (j := n - 1) (by omega) hv, t, _, 0, _, rfl, rfl, hs, rfl, _, rfl, rfl, ?_⟩
        have e1 : fits q e n = decide (V.int y.1 = V.int e) := by
          unfold fits
          rw [decide_eq_true c, Bool.true_and, decide_eq_false z, Bool.false_or, hy]
          exact decide_eq_decide.mpr ⟨fun h => congrArg V.int (Option.some.inj h), fun h => by injection h with h; rw [← h]; rfl⟩
        rw [← e1]
        exact k
    · rw [decide_eq_true (show ((xs.length : Nat) : Int) < ((n : Nat) : Int) by omega)]
      refine iteT ?_
      have : fits q e n = false := by
        unfold fits
        rw [decide_eq_false c, Bool.false_and]
      rw [this] at k
      exact k
theorem scRInit : FnScope ["self", "records", "record"] ["self", "records"] (defScope (sRec 0)) := ⟨rfl, rfl, rfl, by decide +kernel, rfl, by decide +kernel, by decide +kernel⟩
theorem g_rinit (T : Txt P K mg a) : ∃ fd, FnOk P w K mg base CX0 2 a.rInit fd ["self", "records"] (spRInit K a.cR) ∧ Binds K fd ["self", "records"] [] := by
  obtain ⟨fd, F, b⟩ := T.rInit
  obtain ⟨fp, GP, bp⟩ := g_put (P := P) (w := w) (base := base) T
  refine ⟨fd, F.ok scRInit (fun vs H Q E h => ?_) (fun cdv A outer s H vs Q E hr h => ?_), b⟩
  · obtain ⟨p, dx, t, xs, rs, rfl, _⟩ := h
    rfl
  · obtain ⟨p, dx, t, xs, rs, rfl, hp, hs, ht, hlen, k⟩ := h
    -- self.epoch = -1; self.row = []; for record in records: self.put(record)
    refine ⟨_, pss_cons (ps_fld (pv 0) (pe_un un_neg pe_int) rfl) (pss_cons (ps_fld (pv 0) (pe_lst pa_nil) rfl)
      (pss_one (ps_for PassesOwn.never rfl (pi_tup (pv 1)) (pg_name (i := 2) scRInit.nd rfl (Or.inl rfl)) (pss_one (ps_expr (pe_meth (pv 0) T.clR T.mPut GP hr bp .nil pass0 (pa_cons (pv 2) pa_nil))))))), ?_⟩
    refine ⟨1, rfl, _, rfl, p, _, dx, _, rfl, hp, T.clR, T.nRe, (by show 0 < 1000; decide), ?_⟩
    refine ⟨(by show 0 ≤ sizeLine; decide), fun l hl => ?_⟩
    have hl0 : H l = none := by
      by_cases z : l = p
      · rw [z, upd_same] at hl
        cases hl
      · rw [upd_ne z] at hl
        exact hl
    have npl : p ≠ l := ne_of_none hp hl0
    refine ⟨_, rfl, p, _, dx, _, rfl, by rw [upd_ne npl, upd_same], T.clR, T.nRr, (by show 1 < 1000; decide), ?_⟩
    have keep0 : ∀ b o, H b = some o → b ≠ p → (upd (upd (upd H p (.ins a.cR dx [(("epoch" : Str), V.int (-1))])) l (.lst [])) p (.ins a.cR dx [(("epoch" : Str), V.int (-1)), ("row", .ref l)])) b = some o := fun b o hb n1 => by
      rw [upd_ne n1, upd_ne (ne_of_none hb hl0), upd_ne n1]
      exact hb
    have np : ∀ b o, b = p → H b = some o → ¬ imm o := fun b o e h => by
      rw [e, hp] at h
      cases h
      exact fun z => z
    refine ⟨_, rfl, t, rfl, ⟨_, (Kept.of_but (p := fun b => b = p) (fun b o hb n1 => keep0 b o hb n1) np).sqT hs⟩, for_tup (K := K) (a := t) (xs := xs)
      (fun i σ H' => ∃ v : Option V, σ = [some (.ref p), some (.ref t), v] ∧ RecAt K a.cR H' p l (knOf (rs.take i)) ∧ ∀ b o, H b = some o → b ≠ p → H' b = some o) ⟨none, rfl, ⟨dx, [], upd_same, by rw [upd_ne npl.symm, upd_same], .nil⟩, keep0⟩
      (fun i σ H' _ ⟨_, _, _, kk⟩ => (Kept.of_but (p := fun b => b = p) (fun b o hb n1 => kk b o hb n1) np).sqT hs) ?_ ?_⟩
    · rintro i x σ H' hi ⟨v, rfl, R, kk⟩
      obtain ⟨d, hd, tx⟩ := ht.getV hi
      rw [List.getElem?_map] at hd
      obtain ⟨r, hr', rfl⟩ := Option.map_eq_some_iff.mp hd
      have kept : Kept H H' := Kept.of_but (p := fun b => b = p) (fun b o hb n1 => kk b o hb n1) np
      obtain ⟨dy, ys, h1, h2, h3⟩ := id R
      have hil : i < rs.length := (List.getElem?_eq_some_iff.mp hr').1
      refine ⟨_, rfl, p, dy, _, rfl, h1, rfl, _, rfl, p, l, _, x, r, rfl, R, tx.at kept, ?_, fun H2 R2 k2 => ?_⟩
      · have := knOf_len (rs.take i)
        rw [List.length_take] at this
        omega
      · refine ⟨some x, rfl, ?_, fun b o hb n1 => k2 b o (kk b o hb n1) n1 (ne_of_none hb hl0)⟩
        have e : rs.take (i + 1) = rs.take i ++ [r] := by rw [List.take_add_one, hr']; rfl
        rw [e, knOf_snoc]
        exact R2
    · rintro σ H' ⟨v, rfl, R, kk⟩
      have hxl := ht.len
      rw [List.length_map] at hxl
      rw [List.take_of_length_le (by omega)] at R
      exact k l H' R hl0 kk
end
end K41
set_option Elab.async false
set_option linter.all false
set_option maxRecDepth 100000
set_option maxHeartbeats 4000000
/-! L41E: a keeper's defs. -/
namespace K41
open PySem PySem.Spec PyProof.Rows L2 StX

/-- a Keeper of the number i at p -/
def KeeAt (K : PySem.W.Frag) (C : Addr) (H : Hp) (p : Addr) (i : Nat) (k : Kp) : Prop :=
  ∃ dx r l w, H p = some (.ins C dx [(("number" : Str), .int (i : Nat)), ("records", r), ("loose", l), ("waiting", w)]) ∧
    Tp K H r (.tuple (k.recs.map Rec.d)) ∧ Tp K H l (.tuple (k.loose.map Rec.d)) ∧ Tp K H w (.tuple (k.wait.map Let.d))
/-- all but what stands at p is as it was -/
def But (p : Addr) (H H' : Hp) : Prop := ∀ b o, H b = some o → b ≠ p → H' b = some o
theorem But.refl (p : Addr) (H : Hp) : But p H H := fun _ _ h _ => h
theorem But.trans {p : Addr} {H H1 H2 : Hp} (a : But p H H1) (b : But p H1 H2) : But p H H2 := fun c o h n => b c o (a c o h n) n
theorem But.of_same {p : Addr} {H H' : Hp} (s : Same H H') : But p H H' := fun b o h _ => s b o h
theorem But.upd {p : Addr} {H : Hp} {o : HO} : But p H (upd H p o) := fun b u h n => by rw [upd_ne n]; exact h
theorem But.kept {p : Addr} {H H' : Hp} {o : HO} (k : But p H H') (hp : H p = some o) (ho : ¬ imm o) : Kept H H' :=
  Kept.of_but (p := fun b => b = p) (fun b u h n => k b u h n) fun b u e h => by
    rw [e, hp] at h
    cases h
    exact ho
theorem same_new {H : Hp} {p : Addr} {o : HO} (hp : H p = none) : Same H (upd H p o) := fun b u h => by
  rw [upd_ne (ne_of_none h hp)]
  exact h
theorem KeeAt.but {K : PySem.W.Frag} {C : Addr} {H H' : Hp} {p q : Addr} {i : Nat} {k : Kp} (h : KeeAt K C H p i k) (n : p ≠ q) (b : But q H H') (kk : Kept H H') : KeeAt K C H' p i k := by
  obtain ⟨dx, r, l, w, h1, h2, h3, h4⟩ := h
  exact ⟨dx, r, l, w, b p _ h1 n, h2.at kk, h3.at kk, h4.at kk⟩
theorem KeeAt.same {K : PySem.W.Frag} {C : Addr} {H H' : Hp} {p : Addr} {i : Nat} {k : Kp} (h : KeeAt K C H p i k) (s : Same H H') : KeeAt K C H' p i k := by
  obtain ⟨dx, r, l, w, h1, h2, h3, h4⟩ := h
  have kk := Kept.of_same s
  exact ⟨dx, r, l, w, s p _ h1, h2.at kk, h3.at kk, h4.at kk⟩
/-- t + u of tuples of data -/
theorem cat_ok {K : PySem.W.Frag} {H : Hp} {x y : V} {ds es : List PyData} {Q : VK} (hx : Tp K H x (.tuple ds)) (hy : Tp K H y (.tuple es)) (hlen : ds.length + es.length ≤ 1000000)
    (k : ∀ v H', Same H H' → Tp K H' v (.tuple (ds ++ es)) → Q v H') : rCatA K x y H Q := by
  obtain ⟨a, xs, rfl, hs, ha⟩ := tp_tup hx
  obtain ⟨b, ys, rfl, ht, hb⟩ := tp_tup hy
  have l1 := ha.len
  have l2 := hb.len
  refine ⟨a, b, xs, ys, rfl, rfl, hs, ht, by rw [sizeLine_eq]; omega, fun e => ?_, fun _ e => ?_, fun _ _ p hp => ?_⟩
  · subst e
    have : ds = [] := List.length_eq_zero_iff.mp (by simpa using l1.symm)
    subst this
    exact k _ _ (Same.refl _) hy
  · subst e
    have : es = [] := List.length_eq_zero_iff.mp (by simpa using l2.symm)
    subst this
    rw [List.append_nil] at k
    exact k _ _ (Same.refl _) hx
  · have kk := kept_new (o := .tup (xs ++ ys)) hp
    exact k _ _ (same_new hp) (.tup (SqT.of upd_same) ((ha.at kk).app (hb.at kk)))

def spKInit (K : PySem.W.Frag) (C : Addr) : Sp := fun vs H Q _ => ∃ (p dx : Addr) (i : Nat), vs = [.ref p, .int (i : Nat)] ∧ H p = some (.ins C dx []) ∧
  ∀ H' : Hp, KeeAt K C H' p i ⟨[], [], []⟩ → But p H H' → Q .non H'
def spKept (K : PySem.W.Frag) (a : Ad) : Sp := fun vs H Q _ => ∃ (p : Addr) (i : Nat) (k : Kp), vs = [.ref p] ∧ KeeAt K a.cK H p i k ∧ k.recs.length + k.loose.length ≤ 1000000 ∧
  ∀ (x l : Addr) (H' : Hp), RecAt K a.cR H' x l k.kn → H x = none → H l = none → Same H H' → Q (.ref x) H'
def spKTake (K : PySem.W.Frag) (a : Ad) : Sp := fun vs H Q _ => ∃ (p x l : Addr) (i : Nat) (k : Kp) (e : Int) (n : Nat) (v : V) (y : Ent), vs = [.ref p, .ref x, .int e, .int (n : Nat), v] ∧ KeeAt K a.cK H p i k ∧ RecAt K a.cR H x l k.kn ∧ Tp K H v y.d ∧
  KB 100000 k ∧ ¬ e < k.kn.ep ∧ ∀ H' : Hp, KeeAt K a.cK H' p i (k.handle i (.write e i n y)) → But p H H' → Q .non H'
def spHandle (K : PySem.W.Frag) (a : Ad) : Sp := fun vs H Q _ => ∃ (p : Addr) (i : Nat) (k : Kp) (v : V) (y : Let), vs = [.ref p, v] ∧ KeeAt K a.cK H p i k ∧ Tp K H v y.d ∧ y.down = true ∧
  KB 100000 k ∧ ∀ H' : Hp, KeeAt K a.cK H' p i (k.handle i y) → But p H H' → Q .non H'
def spKFlush (K : PySem.W.Frag) (a : Ad) : Sp := fun vs H Q _ => ∃ (p : Addr) (i : Nat) (k : Kp), vs = [.ref p] ∧ KeeAt K a.cK H p i k ∧ KB 100000 k ∧
  ∀ (t : V) (H' : Hp), KeeAt K a.cK H' p i k.flush → Tp K H' t (.tuple (k.wait.map Let.d)) → But p H H' → Q t H'

section
variable {P : Program} {w : World} {K : PySem.W.Frag} {mg : Str → Option Value} {base : Heap} {a : Ad}
theorem scKInit : FnScope ["self", "number"] ["self", "number"] (defScope (sKee 0)) := ⟨rfl, rfl, rfl, by decide +kernel, rfl, by decide +kernel, by decide +kernel⟩
theorem g_kinit (T : Txt P K mg a) : ∃ fd, FnOk P w K mg base CX0 1 a.kInit fd ["self", "number"] (spKInit K a.cK) ∧ Binds K fd ["self", "number"] [] := by
  obtain ⟨fd, F, b⟩ := T.kInit
  refine ⟨fd, F.ok scKInit (fun vs H Q E h => ?_) (fun cdv A outer s H vs Q E hr h => ?_), b⟩
  · obtain ⟨p, dx, i, rfl, _⟩ := h
    rfl
  · obtain ⟨p, dx, i, rfl, hp, k⟩ := h
    refine ⟨_, pss_cons (ps_fld (pv 0) (pv 1) rfl) (pss_cons (ps_fld (pv 0) (pe_tup pa_nil) rfl) (pss_cons (ps_fld (pv 0) (pe_tup pa_nil) rfl) (pss_one (ps_fld (pv 0) (pe_tup pa_nil) rfl)))), ?_⟩
    have hz : ([] : List V).length ≤ sizeLine := by show 0 ≤ sizeLine; decide
    refine ⟨_, rfl, _, rfl, p, _, dx, _, rfl, hp, T.clK, T.nKn, (by show 0 < 1000; decide), hz, fun t1 h1 => ?_⟩
    have p1 : p ≠ t1 := ne_of_none upd_same h1
    refine ⟨_, rfl, p, _, dx, _, rfl, by rw [upd_ne p1, upd_same], T.clK, T.nKr, (by show 1 < 1000; decide), hz, fun t2 h2 => ?_⟩
    have p2 : p ≠ t2 := ne_of_none upd_same h2
    refine ⟨_, rfl, p, _, dx, _, rfl, by rw [upd_ne p2, upd_same], T.clK, T.nKl, (by show 2 < 1000; decide), hz, fun t3 h3 => ?_⟩
    have p3 : p ≠ t3 := ne_of_none upd_same h3
    refine ⟨_, rfl, p, _, dx, _, rfl, by rw [upd_ne p3, upd_same], T.clK, T.nKw, (by show 3 < 1000; decide), ?_⟩
    have n12 : t1 ≠ t2 := by
      refine ne_of_none (o := .tup []) ?_ h2
      rw [upd_ne p1.symm, upd_same]
    have n13 : t1 ≠ t3 := by
      refine ne_of_none (o := .tup []) ?_ h3
      rw [upd_ne p1.symm, upd_ne n12, upd_ne p1.symm, upd_same]
    have n23 : t2 ≠ t3 := by
      refine ne_of_none (o := .tup []) ?_ h3
      rw [upd_ne p2.symm, upd_same]
    refine k _ ⟨dx, .ref t1, .ref t2, .ref t3, upd_same, .tup (SqT.of ?_) .nil, .tup (SqT.of ?_) .nil, .tup (SqT.of ?_) .nil⟩ fun b o hb nb => ?_
    · rw [upd_ne p1.symm, upd_ne n13, upd_ne p1.symm, upd_ne n12, upd_ne p1.symm, upd_same]
    · rw [upd_ne p2.symm, upd_ne n23, upd_ne p2.symm, upd_same]
    · rw [upd_ne p3.symm, upd_same]
    · have e1 : (upd H p (HO.ins a.cK dx [(("number" : Str), V.int (i : Nat))])) b = some o := by rw [upd_ne nb]; exact hb
      have e2 := same_new (o := .tup []) h1 b o e1
      have e3 : (upd (upd (upd H p (HO.ins a.cK dx [(("number" : Str), V.int (i : Nat))])) t1 (.tup [])) p (HO.ins a.cK dx [(("number" : Str), V.int (i : Nat)), ("records", .ref t1)])) b = some o := by rw [upd_ne nb]; exact e2
      have e4 := same_new (o := .tup []) h2 b o e3
      have e5 : (upd (upd (upd (upd (upd H p (HO.ins a.cK dx [(("number" : Str), V.int (i : Nat))])) t1 (.tup [])) p (HO.ins a.cK dx [(("number" : Str), V.int (i : Nat)), ("records", .ref t1)])) t2 (.tup [])) p (HO.ins a.cK dx [(("number" : Str), V.int (i : Nat)), ("records", .ref t1), ("loose", .ref t2)])) b = some o := by rw [upd_ne nb]; exact e4
      have e6 := same_new (o := .tup []) h3 b o e5
      rw [upd_ne nb]
      exact e6
theorem scKept : FnScope ["self"] ["self"] (defScope (sKee 1)) := ⟨rfl, rfl, rfl, by decide +kernel, rfl, by decide +kernel, by decide +kernel⟩
theorem g_kept (T : Txt P K mg a) : ∃ fd, FnOk P w K mg base CX0 4 a.kKept fd ["self"] (spKept K a) ∧ Binds K fd ["self"] [] := by
  obtain ⟨fd, F, b⟩ := T.kKept
  obtain ⟨fi, GI, bi⟩ := g_rinit (P := P) (w := w) (base := base) T
  refine ⟨fd, F.ok scKept (fun vs H Q E h => ?_) (fun cdv A outer s H vs Q E hr h => ?_), b⟩
  · obtain ⟨p, i, k, rfl, _⟩ := h
    rfl
  · obtain ⟨p, i, k, rfl, ⟨dx, r, l, w', hp, t1, t2, t3⟩, hlen, q⟩ := h
    refine ⟨_, pss_one (ps_ret (pe_make T.mkR GI hr rfl T.gR bi .nil pass0 (pa_cons (pe_op op_catA (pe_fld (pv 0) rfl) (pe_fld (pv 0) rfl)) pa_nil))), ?_⟩
    refine ⟨_, rfl, p, _, dx, _, _, rfl, hp, T.clK, T.nKr, rfl, _, rfl, p, _, dx, _, _, rfl, hp, T.clK, T.nKl, rfl, ?_⟩
    refine cat_ok t1 t2 (by rw [List.length_map, List.length_map]; exact hlen) fun v H1 s1 tv x dy hx hy hxy => ?_
    rw [← List.map_append] at tv
    obtain ⟨t, xs, rfl, hs, ha⟩ := tp_tup tv
    have s2 : Same H1 (upd (upd H1 dy (.own x)) x (.ins a.cR dy [])) := fun b o h => by
      rw [upd_ne (ne_of_none h hx), upd_ne (ne_of_none h hy)]
      exact h
    refine ⟨x, dy, t, xs, k.recs ++ k.loose, rfl, upd_same, (Kept.of_same s2).sqT hs, ha.at (Kept.of_same s2), by rw [List.length_append]; exact hlen, fun l2 H2 R hl2 kk => ⟨rfl, ?_⟩⟩
    exact q x l2 H2 R (s1.free hx) ((s1.trans s2).free hl2) fun b o h => kk b o (s2 b o (s1 b o h)) (ne_of_none (s1 b o h) hx)
theorem KeeAt.imm {H : Hp} {C p : Addr} {i : Nat} {k : Kp} (h : KeeAt K C H p i k) : ∃ o, H p = some o ∧ ¬ imm o := by
  obtain ⟨dx, r, l, w, h1, _⟩ := h
  exact ⟨_, h1, fun z => z⟩
theorem scKTake : FnScope ["self", "known", "epoch", "place", "entry"] ["self", "known", "epoch", "place", "entry"] (defScope (sKee 3)) := ⟨rfl, rfl, rfl, by decide +kernel, rfl, by decide +kernel, by decide +kernel⟩
theorem g_ktake (T : Txt P K mg a) : ∃ fd, FnOk P w K mg base CX0 2 a.kTake fd ["self", "known", "epoch", "place", "entry"] (spKTake K a) ∧ Binds K fd ["self", "known", "epoch", "place", "entry"] [] := by
  obtain ⟨fd, F, b⟩ := T.kTake
  obtain ⟨fi, GF, bf⟩ := g_fits (P := P) (w := w) (base := base) T
  refine ⟨fd, F.ok scKTake (fun vs H Q E h => ?_) (fun cdv A outer s H vs Q E hr h => ?_), b⟩
  · obtain ⟨p, x, l, i, k, e, n, v, y, rfl, _⟩ := h
    rfl
  · obtain ⟨p, x, l, i, k, e, n, v, y, rfl, KA, R, tv, B, hle, q⟩ := h
    have hk1 := B.hist
    have hk2 := B.wait
    -- if not known.fits(epoch, place): return
    refine ⟨_, pss_cons (ps_if (pt_not (pt_val (pe_meth (pv 1) T.clR T.mFits GF hr bf .nil pass0 (pa_cons (pv 2) (pa_cons (pv 3) pa_nil))))) (pss_one ps_retN) pss_nil)
      (pss_cons (ps_if (PW.pt (pw_or (pt_cmpR op_eq (pv 3) (pe_callB call_len_seq rfl T.nLen PySem.boot_len (pa_cons (pe_fld (pv 1) rfl) pa_nil)) (nomark _))
          (pw_or1 (pt_cmpR (op_neD hr.units) (pe_ix ix_list (pe_fld (pv 1) rfl) (pv 3) (fun _ _ => rfl)) (pe_tup (pa_cons (pv 2) (pa_cons (pv 4) pa_nil))) (nomark _)))))
        (pss_one (ps_fld (pv 0) (pe_tup (pa_star (pe_fld (pv 0) rfl) (pa_cons (pe_tup (pa_cons pe_str (pa_cons (pv 2) (pa_cons (pv 3) (pa_cons (pv 4) pa_nil))))) pa_nil))) rfl)) pss_nil)
      (pss_one (ps_fld (pv 0) (pe_tup (pa_star (pe_fld (pv 0) rfl) (pa_cons (pe_tup (pa_cons pe_str (pa_cons (pv 2) (pa_cons (pe_fld (pv 0) rfl) (pa_cons (pv 3) pa_nil))))) pa_nil))) rfl))), ?_⟩
    obtain ⟨dr, xs, hx, hl, hxs⟩ := id R
    have hxl := hxs.len
    rw [List.length_map] at hxl
    refine ⟨_, rfl, x, dr, _, rfl, hx, rfl, _, rfl, _, rfl, x, l, k.kn, e, n, rfl, R, _, rfl, ?_⟩
    by_cases f : fits k.kn e n = true
    · rw [f]
      refine iteF ?_
      have hn : n ≤ k.kn.row.length := by
        unfold fits at f
        rw [Bool.and_eq_true] at f
        exact of_decide_eq_true f.1
      -- what follows the second if
      have fin : ∀ (lo : List Rec) (H1 : Hp), lo.length ≤ k.loose.length + 1 → KeeAt K a.cK H1 p i { k with loose := lo } → But p H H1 → (∀ H', KeeAt K a.cK H' p i { k with loose := lo, wait := k.wait ++ [.taken e i n] } → But p H H' → Q .non H') →
          (sFld K (tVar 0) (tTup (tStar K (tFld K (tVar 0) "waiting") (tCons (tTup (tCons (tC (.str "taken")) (tCons (tVar 2) (tCons (tFld K (tVar 0) "number") (tCons (tVar 3) tNil))))) tNil))) "waiting") { nx := fun _ H' => Q .non H', rt := Q }
            [some (.ref p), some (.ref x), some (.int e), some (.int (n : Nat)), some v] H1 := by
        intro lo H1 hlo K1 b1 q1
        obtain ⟨dx, r, l2, w2, hp, t1, t2, t3⟩ := K1
        obtain ⟨wa, ws, rfl, hws, hwa⟩ := tp_tup t3
        have hwl := hwa.len
        rw [List.length_map] at hwl
        have hwl2 : ws.length = k.wait.length := hwl
        refine ⟨_, rfl, p, _, dx, _, _, rfl, hp, T.clK, T.nKw, rfl, wa, ws, rfl, .inl hws, _, rfl, _, rfl, p, _, dx, _, _, rfl, hp, T.clK, T.nKn, rfl, _, rfl, (by show 4 ≤ sizeLine; decide), fun c hc => ?_⟩
        have kc := kept_new (o := .tup [V.str "taken", V.int e, V.int (i : Nat), V.int (n : Nat)]) hc
        refine ⟨(by rw [List.length_append, sizeLine_eq]; show ws.length + 1 ≤ _; omega), fun d hd => ?_⟩
        have kd := kept_new (o := .tup (ws ++ [V.ref c])) hd
        have s2 := (same_new (o := .tup [V.str "taken", V.int e, V.int (i : Nat), V.int (n : Nat)]) hc).trans (same_new (o := .tup (ws ++ [V.ref c])) hd)
        have hp2 := s2 p _ hp
        refine ⟨_, rfl, p, _, dx, _, rfl, hp2, T.clK, T.nKw, (by show 4 < 1000; decide), ?_⟩
        have ku := kept_upd (u := .ins a.cK dx [(("number" : Str), V.int (i : Nat)), ("records", r), ("loose", l2), ("waiting", V.ref d)]) hp2 (fun z => z)
        have kk := Kept.of_same s2
        refine q1 _ ⟨dx, r, l2, .ref d, upd_same, (t1.at kk).at ku, (t2.at kk).at ku, ?_⟩ (b1.trans ((But.of_same s2).trans But.upd))
        have hdt : (upd (upd H1 c (.tup [V.str "taken", V.int e, V.int (i : Nat), V.int (n : Nat)])) d (.tup (ws ++ [V.ref c]))) d = some (.tup (ws ++ [V.ref c])) := upd_same
        have hct : Tp K (upd H1 c (.tup [V.str "taken", V.int e, V.int (i : Nat), V.int (n : Nat)])) (.ref c) (Let.taken e i n).d := mk4 (SqT.of upd_same) (.str _) (.int _) (.int _) (.int _)
        rw [List.map_append]
        exact .tup (ku.sqT (SqT.of hdt)) (((hwa.at kk).at ku).app (.one ((hct.at kd).at ku)))
      have eH : k.handle i (.write e i n y) = { k with loose := if n = k.kn.row.length ∨ k.kn.row[n]? ≠ some (e, y) then k.loose ++ [.take e n y] else k.loose, wait := k.wait ++ [.taken e i n] } := by
        simp only [Kp.handle, if_neg hle, if_pos f]
      rw [eH] at q
      -- the store of the entry
      have put : ∀ H1 : Hp, Same H H1 → (n = k.kn.row.length ∨ k.kn.row[n]? ≠ some (e, y)) →
          (tSeq (sFld K (tVar 0) (tTup (tStar K (tFld K (tVar 0) "loose") (tCons (tTup (tCons (tC (.str "take")) (tCons (tVar 2) (tCons (tVar 3) (tCons (tVar 4) tNil))))) tNil))) "loose")
            (sFld K (tVar 0) (tTup (tStar K (tFld K (tVar 0) "waiting") (tCons (tTup (tCons (tC (.str "taken")) (tCons (tVar 2) (tCons (tFld K (tVar 0) "number") (tCons (tVar 3) tNil))))) tNil))) "waiting")) { nx := fun _ H' => Q .non H', rt := Q }
            [some (.ref p), some (.ref x), some (.int e), some (.int (n : Nat)), some v] H1 := by
        intro H1 s1 c
        rw [if_pos c] at q
        obtain ⟨dx, r, l2, w2, hp, t1, t2, t3⟩ := KA.same s1
        obtain ⟨wa, ws, rfl, hws, hwa⟩ := tp_tup t2
        have hwl := hwa.len
        rw [List.length_map] at hwl
        refine ⟨_, rfl, p, _, dx, _, _, rfl, hp, T.clK, T.nKl, rfl, wa, ws, rfl, .inl hws, _, rfl, _, rfl, _, rfl, (by show 4 ≤ sizeLine; decide), fun c hc => ?_⟩
        have kc := kept_new (o := .tup [V.str "take", V.int e, V.int (n : Nat), v]) hc
        refine ⟨(by rw [List.length_append, sizeLine_eq]; show ws.length + 1 ≤ _; omega), fun d hd => ?_⟩
        have kd := kept_new (o := .tup (ws ++ [V.ref c])) hd
        have s2 := (same_new (o := .tup [V.str "take", V.int e, V.int (n : Nat), v]) hc).trans (same_new (o := .tup (ws ++ [V.ref c])) hd)
        have hp2 := s2 p _ hp
        refine ⟨_, rfl, p, _, dx, _, rfl, hp2, T.clK, T.nKl, (by show 4 < 1000; decide), ?_⟩
        have ku := kept_upd (u := .ins a.cK dx [(("number" : Str), V.int (i : Nat)), ("records", r), ("loose", V.ref d), ("waiting", w2)]) hp2 (fun z => z)
        have kk := Kept.of_same s2
        refine fin (k.loose ++ [.take e n y]) _ (by simp) ⟨dx, r, .ref d, w2, upd_same, (t1.at kk).at ku, ?_, (t3.at kk).at ku⟩ ((But.of_same s1).trans ((But.of_same s2).trans But.upd)) q
        have hdt : (upd (upd H1 c (.tup [V.str "take", V.int e, V.int (n : Nat), v])) d (.tup (ws ++ [V.ref c]))) d = some (.tup (ws ++ [V.ref c])) := upd_same
        have hct : Tp K (upd H1 c (.tup [V.str "take", V.int e, V.int (n : Nat), v])) (.ref c) (Rec.take e n y).d := mk4 (SqT.of upd_same) (.str _) (.int _) (.int _) ((tv.at (Kept.of_same s1)).at kc)
        rw [List.map_append]
        exact .tup (ku.sqT (SqT.of hdt)) (((hwa.at kk).at ku).app (.one ((hct.at kd).at ku)))
      -- if place == len(known.row) or known.row[place] != (epoch, entry)
      refine ⟨_, rfl, _, rfl, x, _, dr, _, _, rfl, hx, T.clR, T.nRr, rfl, l, _, rfl, .inl (SqL.of hl), rfl, _, rfl, ?_⟩
      by_cases z : n = k.kn.row.length
      · rw [decide_eq_true (show V.int ((n : Nat) : Int) = V.int ((xs.length : Nat) : Int) by rw [hxl, z])]
        exact iteT (iteT (put H (Same.refl H) (.inl z)))
      · rw [decide_eq_false (show ¬ V.int ((n : Nat) : Int) = V.int ((xs.length : Nat) : Int) from fun h => z (by injection h with h; omega))]
        refine iteF ?_
        obtain ⟨qy, hqy⟩ : ∃ qy, k.kn.row[n]? = some qy := ⟨_, List.getElem?_eq_getElem (by omega)⟩
        obtain ⟨u, hu, tu⟩ := hxs.get (i := n) (d := pairD qy) (by rw [List.getElem?_map, hqy]; rfl)
        refine ⟨_, rfl, x, _, dr, _, _, rfl, hx, T.clR, T.nRr, rfl, _, rfl, l, _, _, _, rfl, rfl, SqL.of hl, atI_nat hu, _, rfl, _, rfl, (by show 2 ≤ sizeLine; decide), fun c hc => ?_⟩
        have s1 := same_new (o := .tup [V.int e, v]) hc
        have kc := Kept.of_same s1
        have tc : Tp K (upd H c (.tup [V.int e, v])) (.ref c) (pairD (e, y)) := mk2 (SqT.of upd_same) (.int e) (tv.at kc)
        refine ⟨pairD qy, pairD (e, y), Tp.dp _ _ (tu.at kc), Tp.dp _ _ tc, pair_shaped _, pair_shaped _, _, rfl, ?_⟩
        rw [pair_eqv]
        by_cases c2 : qy = (e, y)
        · rw [decide_eq_true c2]
          refine iteF ?_
          have hno : ¬ (n = k.kn.row.length ∨ k.kn.row[n]? ≠ some (e, y)) := by
            rintro (h | h)
            · exact z h
            · exact h (by rw [hqy, c2])
          rw [if_neg hno] at q
          exact fin k.loose _ (by omega) (KA.same s1) (But.of_same s1) q
        · rw [decide_eq_false c2]
          exact iteT (put _ s1 (.inr (by rw [hqy]; exact fun h => c2 (Option.some.inj h))))
    · rw [Bool.not_eq_true] at f
      rw [f]
      refine iteT ?_
      have eH : k.handle i (.write e i n y) = k := by
        simp only [Kp.handle, if_neg hle, f]
        simp
      rw [eH] at q
      exact q H KA (But.refl p H)
theorem add_wait {H : Hp} {C p c d dx : Addr} {i : Nat} {k : Kp} {r l2 : V} {ws : List V} {y : Let} (hp : H p = some (.ins C dx [(("number" : Str), .int (i : Nat)), ("records", r), ("loose", l2), ("waiting", .ref c)]))
    (t1 : Tp K H r (.tuple (k.recs.map Rec.d))) (t2 : Tp K H l2 (.tuple (k.loose.map Rec.d))) {v : V} (hw : TpAll K H ws (k.wait.map Let.d)) (hv : Tp K H v y.d) (hd : H d = none) :
    KeeAt K C (upd (upd H d (.tup (ws ++ [v]))) p (.ins C dx [(("number" : Str), .int (i : Nat)), ("records", r), ("loose", l2), ("waiting", .ref d)])) p i { k with wait := k.wait ++ [y] } ∧
    But p H (upd (upd H d (.tup (ws ++ [v]))) p (.ins C dx [(("number" : Str), .int (i : Nat)), ("records", r), ("loose", l2), ("waiting", .ref d)])) := by
  have s1 := same_new (o := .tup (ws ++ [v])) hd
  have kd := Kept.of_same s1
  have ku := kept_upd (u := .ins C dx [(("number" : Str), .int (i : Nat)), ("records", r), ("loose", l2), ("waiting", .ref d)]) (s1 p _ hp) (fun z => z)
  have hdt : (upd H d (.tup (ws ++ [v]))) d = some (.tup (ws ++ [v])) := upd_same
  refine ⟨⟨dx, r, l2, .ref d, upd_same, (t1.at kd).at ku, (t2.at kd).at ku, ?_⟩, (But.of_same s1).trans But.upd⟩
  rw [List.map_append]
  exact .tup (ku.sqT (SqT.of hdt)) (((hw.at kd).at ku).app (.one ((hv.at kd).at ku)))
theorem add_loose {H : Hp} {C p c d dx : Addr} {i : Nat} {k : Kp} {r w2 : V} {ws : List V} {y : Rec} (hp : H p = some (.ins C dx [(("number" : Str), .int (i : Nat)), ("records", r), ("loose", .ref c), ("waiting", w2)]))
    (t1 : Tp K H r (.tuple (k.recs.map Rec.d))) (t3 : Tp K H w2 (.tuple (k.wait.map Let.d))) {v : V} (hw : TpAll K H ws (k.loose.map Rec.d)) (hv : Tp K H v y.d) (hd : H d = none) :
    KeeAt K C (upd (upd H d (.tup (ws ++ [v]))) p (.ins C dx [(("number" : Str), .int (i : Nat)), ("records", r), ("loose", .ref d), ("waiting", w2)])) p i { k with loose := k.loose ++ [y] } ∧
    But p H (upd (upd H d (.tup (ws ++ [v]))) p (.ins C dx [(("number" : Str), .int (i : Nat)), ("records", r), ("loose", .ref d), ("waiting", w2)])) := by
  have s1 := same_new (o := .tup (ws ++ [v])) hd
  have kd := Kept.of_same s1
  have ku := kept_upd (u := .ins C dx [(("number" : Str), .int (i : Nat)), ("records", r), ("loose", .ref d), ("waiting", w2)]) (s1 p _ hp) (fun z => z)
  have hdt : (upd H d (.tup (ws ++ [v]))) d = some (.tup (ws ++ [v])) := upd_same
  refine ⟨⟨dx, r, .ref d, w2, upd_same, (t1.at kd).at ku, ?_, (t3.at kd).at ku⟩, (But.of_same s1).trans But.upd⟩
  rw [List.map_append]
  exact .tup (ku.sqT (SqT.of hdt)) (((hw.at kd).at ku).app (.one ((hv.at kd).at ku)))
theorem RecAt.same {H H' : Hp} {C x l : Addr} {q : Kn} (h : RecAt K C H x l q) (s : Same H H') : RecAt K C H' x l q := by
  obtain ⟨dx, xs, h1, h2, h3⟩ := h
  exact ⟨dx, xs, s _ _ h1, s _ _ h2, h3.at (Kept.of_same s)⟩
theorem RecAt.but {H H' : Hp} {C x l p : Addr} {q : Kn} (h : RecAt K C H x l q) (n1 : x ≠ p) (n2 : l ≠ p) (b : But p H H') (kk : Kept H H') : RecAt K C H' x l q := by
  obtain ⟨dx, xs, h1, h2, h3⟩ := h
  exact ⟨dx, xs, b _ _ h1 n1, b _ _ h2 n2, h3.at kk⟩
theorem scHandle : FnScope ["self", "letter", "known", "epoch"] ["self", "letter"] (defScope (sKee 2)) := ⟨rfl, rfl, rfl, by decide +kernel, rfl, by decide +kernel, by decide +kernel⟩
theorem g_handle (T : Txt P K mg a) : ∃ fd, FnOk P w K mg base CX0 5 a.kHandle fd ["self", "letter"] (spHandle K a) ∧ Binds K fd ["self", "letter"] [] := by
  obtain ⟨fd, F, b⟩ := T.kHandle
  obtain ⟨fk, GK, bk⟩ := g_kept (P := P) (w := w) (base := base) T
  obtain ⟨ft, GT, bt⟩ := g_ktake (P := P) (w := w) (base := base) T
  refine ⟨fd, F.ok scHandle (fun vs H Q E h => ?_) (fun cdv A outer s H vs Q E hr h => ?_), b⟩
  · obtain ⟨p, i, k, v, y, rfl, _⟩ := h
    rfl
  · obtain ⟨p, i, k, v, y, rfl, KA, tv, hdn, B, q⟩ := h
    have hk1 := B.hist
    have hk2 := B.wait
    have hr2 : Room 2 _ := hr.mono (by decide)
    refine ⟨_, pss_cons (ps_par (i := 2) (j := 3) rfl scHandle.nd rfl rfl (by decide) rfl rfl (pa_cons (pe_meth0 (pv 0) T.clK T.mKept GK hr bk .nil pass0) (pa_cons (pe_ix ix_tup (pv 1) pe_int (fun _ _ => rfl)) pa_nil)) (by rfl))
      (pss_one (ps_if (pt_cmpR op_lt (pv 3) (pe_fld (pv 2) rfl) (nomark _))
        (pss_one (ps_fld (pv 0) (pe_tup (pa_star (pe_fld (pv 0) rfl) (pa_cons (pe_tup (pa_cons pe_str (pa_cons (pv 3) (pa_cons (pe_fld (pv 0) rfl) (pa_cons (pe_fld (pv 2) rfl) pa_nil))))) pa_nil))) rfl))
        (pss_one (ps_if (pt_cmpR op_eq (pe_ix ix_tup (pv 1) pe_int (fun _ _ => rfl)) pe_str (nomark _))
          (pss_cons (ps_if (pt_cmpR op_gt (pv 3) (pe_fld (pv 2) rfl) (nomark _))
              (pss_one (ps_fld (pv 0) (pe_tup (pa_star (pe_fld (pv 0) rfl) (pa_cons (pe_tup (pa_cons pe_str (pa_cons (pv 3) pa_nil))) pa_nil))) rfl)) pss_nil)
            (pss_one (ps_fld (pv 0) (pe_tup (pa_star (pe_fld (pv 0) rfl) (pa_cons (pe_tup (pa_cons pe_str (pa_cons (pv 3) (pa_cons (pe_fld (pv 0) rfl)
              (pa_cons (pe_callTy call_tuple_of rfl T.nTuple (by decide +kernel) (pa_cons (pe_fld (pv 2) rfl) pa_nil)) pa_nil))))) pa_nil))) rfl)))
          (pss_one (ps_expr (pe_meth (pv 0) T.clK T.mTake GT hr2 bt .nil pass0 (pa_cons (pv 2) (pa_cons (pv 3) (pa_cons (pe_ix ix_tup (pv 1) pe_int (fun _ _ => rfl)) (pa_cons (pe_ix ix_tup (pv 1) pe_int (fun _ _ => rfl)) pa_nil))))))))))), ?_⟩
    -- the letter as a tuple
    obtain ⟨t, ls, rfl, hs, e1⟩ : ∃ t ls, v = .ref t ∧ SqT K H t ls ∧ ls[1]? = some (V.int y.ep) := by
      cases y with
      | ask e n =>
        obtain ⟨t, x0, x1, x2, rfl, hs, h0, h1, h2⟩ := tp3 tv
        cases tp_int h1
        exact ⟨t, _, rfl, hs, rfl⟩
      | write e n m x =>
        obtain ⟨t, x0, x1, x2, x3, x4, rfl, hs, h0, h1, h2, h3, h4⟩ := tp5 tv
        cases tp_int h1
        exact ⟨t, _, rfl, hs, rfl⟩
      | _ => cases hdn
    obtain ⟨dx, r, l2, w2, hp, t1, t2, t3⟩ := id KA
    refine ⟨_, rfl, p, dx, _, rfl, hp, rfl, p, i, k, rfl, KA, by omega, fun x l H1 R hx0 hl0 s1 => ?_⟩
    have k1 := Kept.of_same s1
    have hs1 := k1.sqT hs
    refine ⟨_, rfl, t, _, 1, _, rfl, rfl, hs1, at_of (j := 1) rfl e1, _, _, rfl, ?_⟩
    have npx : p ≠ x := ne_of_none hp hx0
    have npl : p ≠ l := ne_of_none hp hl0
    have KA1 := KA.same s1
    clear t1 t2 t3 hp
    obtain ⟨dx, r, l2, w2, hp, t1, t2, t3⟩ := id KA1
    obtain ⟨dr, xs, hx, hl, hxs⟩ := id R
    refine ⟨_, rfl, _, rfl, x, _, dr, _, _, rfl, hx, T.clR, T.nRe, rfl, _, _, rfl, rfl, _, rfl, ?_⟩
    by_cases lt : y.ep < k.kn.ep
    · rw [decide_eq_true lt]
      refine iteT ?_
      obtain ⟨wa, ws, rfl, hws, hwa⟩ := tp_tup t3
      have hwl := hwa.len
      rw [List.length_map] at hwl
      refine ⟨_, rfl, p, _, dx, _, _, rfl, hp, T.clK, T.nKw, rfl, wa, ws, rfl, .inl hws, _, rfl, _, rfl, p, _, dx, _, _, rfl, hp, T.clK, T.nKn, rfl, _, rfl, x, _, dr, _, _, rfl, hx, T.clR, T.nRe, rfl, (by show 4 ≤ sizeLine; decide), fun c hc => ?_⟩
      refine ⟨(by rw [List.length_append, sizeLine_eq]; show ws.length + 1 ≤ _; omega), fun d hd => ?_⟩
      have s2 := same_new (o := .tup [V.str "refused", V.int y.ep, V.int (i : Nat), V.int k.kn.ep]) hc
      have s3 := same_new (o := .tup (ws ++ [V.ref c])) hd
      refine ⟨_, rfl, p, _, dx, _, rfl, s3 p _ (s2 p _ hp), T.clK, T.nKw, (by show 4 < 1000; decide), ?_⟩
      have k2 := Kept.of_same s2
      obtain ⟨f1, f2⟩ := add_wait (K := K) (k := k) (y := .refused y.ep i k.kn.ep) (s2 p _ hp) (t1.at k2) (t2.at k2) (hwa.at k2) (mk4 (SqT.of upd_same) (.str _) (.int _) (.int _) (.int _)) hd
      have eH : k.handle i y = { k with wait := k.wait ++ [.refused y.ep i k.kn.ep] } := by
        cases y with
        | ask e n => simp only [Kp.handle, if_pos (show e < k.kn.ep from lt)]; rfl
        | write e n m z => simp only [Kp.handle, if_pos (show e < k.kn.ep from lt)]; rfl
        | _ => cases hdn
      rw [eH] at q
      exact q _ f1 ((But.of_same (s1.trans s2)).trans f2)
    · rw [decide_eq_false lt]
      refine iteF ?_
      cases y with
      | ask e n =>
        have lt' : ¬ e < k.kn.ep := lt
        obtain ⟨t', x0, x1, x2, e0, hs', h0, h1, h2⟩ := tp3 (tv.at k1)
        cases e0
        cases tp_str h0
        refine ⟨_, rfl, t, _, 0, _, rfl, rfl, hs', rfl, rfl, _, rfl, iteT ?_⟩
        -- what follows the promise
        have fin : ∀ (lo : List Rec) (H2 : Hp), KeeAt K a.cK H2 p i { k with loose := lo } → RecAt K a.cR H2 x l k.kn → But p H H2 → (∀ H', KeeAt K a.cK H' p i { k with loose := lo, wait := k.wait ++ [.told e i k.kn.row] } → But p H H' → Q .non H') →
            (sFld K (tVar 0) (tTup (tStar K (tFld K (tVar 0) "waiting") (tCons (tTup (tCons (tC (.str "told")) (tCons (tVar 3) (tCons (tFld K (tVar 0) "number")
              (tCons (tCB (fun xs H Q => ∃ p ys, xs = [.ref p] ∧ ((SqL K H p ys ∧ ∀ l, H l = none → Q (.ref l) (upd H l (.tup ys))) ∨ (SqT K H p ys ∧ Q (.ref p) H))) (tCons (tFld K (tVar 2) "row") tNil)) tNil))))) tNil))) "waiting") { nx := fun _ H' => Q .non H', rt := Q }
              [some (.ref p), some (.ref t), some (.ref x), some (.int e)] H2 := by
          intro lo H2 K2 R2 b2 q2
          obtain ⟨dx, r, l3, w3, hp, t1, t2, t3⟩ := K2
          obtain ⟨dr, xs, hx, hl, hxs⟩ := R2
          obtain ⟨wa, ws, rfl, hws, hwa⟩ := tp_tup t3
          have hwl := hwa.len
          rw [List.length_map] at hwl
          have hwl2 : ws.length = k.wait.length := hwl
          refine ⟨_, rfl, p, _, dx, _, _, rfl, hp, T.clK, T.nKw, rfl, wa, ws, rfl, .inl hws, _, rfl, _, rfl, p, _, dx, _, _, rfl, hp, T.clK, T.nKn, rfl, _, rfl, x, _, dr, _, _, rfl, hx, T.clR, T.nRr, rfl, l, xs, rfl, .inl ⟨SqL.of hl, fun z hz => ?_⟩⟩
          refine ⟨(by show 4 ≤ sizeLine; decide), fun c hc => ?_⟩
          refine ⟨(by rw [List.length_append, sizeLine_eq]; show ws.length + 1 ≤ _; omega), fun d hd => ?_⟩
          have s3 := same_new (o := .tup xs) hz
          have s4 := same_new (o := .tup [V.str "told", V.int e, V.int (i : Nat), V.ref z]) hc
          have s5 := same_new (o := .tup (ws ++ [V.ref c])) hd
          refine ⟨_, rfl, p, _, dx, _, rfl, s5 p _ (s4 p _ (s3 p _ hp)), T.clK, T.nKw, (by show 4 < 1000; decide), ?_⟩
          have kz := Kept.of_same (s3.trans s4)
          have tz : Tp K (upd H2 z (.tup xs)) (.ref z) (rowD k.kn.row) := .tup (SqT.of upd_same) (hxs.at (Kept.of_same s3))
          obtain ⟨f1, f2⟩ := add_wait (K := K) (k := { k with loose := lo }) (y := .told e i k.kn.row) (s4 p _ (s3 p _ hp)) (t1.at kz) (t2.at kz) (hwa.at kz) (mk4 (SqT.of upd_same) (.str _) (.int _) (.int _) (tz.at (Kept.of_same s4))) hd
          exact q2 _ f1 (b2.trans ((But.of_same (s3.trans s4)).trans f2))
        have eH : k.handle i (.ask e n) = { k with loose := if k.kn.ep < e then k.loose ++ [.prom e] else k.loose, wait := k.wait ++ [.told e i k.kn.row] } := by
          simp only [Kp.handle, if_neg lt']
        rw [eH] at q
        refine ⟨_, rfl, _, rfl, x, _, dr, _, _, rfl, hx, T.clR, T.nRe, rfl, _, _, rfl, rfl, _, rfl, ?_⟩
        by_cases gt : k.kn.ep < e
        · rw [decide_eq_true (show k.kn.ep < (Let.ask e n).ep from gt)]
          refine iteT ?_
          rw [if_pos gt] at q
          obtain ⟨wa, ws, rfl, hws, hwa⟩ := tp_tup t2
          have hwl := hwa.len
          rw [List.length_map] at hwl
          refine ⟨_, rfl, p, _, dx, _, _, rfl, hp, T.clK, T.nKl, rfl, wa, ws, rfl, .inl hws, _, rfl, (by show 2 ≤ sizeLine; decide), fun c hc => ?_⟩
          refine ⟨(by rw [List.length_append, sizeLine_eq]; show ws.length + 1 ≤ _; omega), fun d hd => ?_⟩
          have s2 := same_new (o := .tup [V.str "promise", V.int e]) hc
          have s3 := same_new (o := .tup (ws ++ [V.ref c])) hd
          refine ⟨_, rfl, p, _, dx, _, rfl, s3 p _ (s2 p _ hp), T.clK, T.nKl, (by show 4 < 1000; decide), ?_⟩
          have k2 := Kept.of_same s2
          obtain ⟨f1, f2⟩ := add_loose (K := K) (k := k) (y := .prom e) (s2 p _ hp) (t1.at k2) (t3.at k2) (hwa.at k2) (mk2 (SqT.of upd_same) (.str _) (.int _)) hd
          exact fin _ _ f1 ((R.same s2).but npx.symm npl.symm f2 (f2.kept (s2 p _ hp) (fun z => z))) ((But.of_same (s1.trans s2)).trans f2) q
        · rw [decide_eq_false (show ¬ k.kn.ep < (Let.ask e n).ep from gt)]
          refine iteF ?_
          rw [if_neg gt] at q
          exact fin k.loose _ KA1 R (But.of_same s1) q
      | write e n m z =>
        obtain ⟨t', x0, x1, x2, x3, x4, e0, hs', h0, h1, h2, h3, h4⟩ := tp5 (tv.at k1)
        cases e0
        cases tp_str h0
        cases tp_int h3
        refine ⟨_, rfl, t, _, 0, _, rfl, rfl, hs', rfl, rfl, _, rfl, ?_⟩
        rw [decide_eq_false (show ¬ V.str "write" = V.str "ask" from fun h => absurd (V.str.inj h) (by decide +kernel))]
        refine iteF ?_
        refine ⟨_, rfl, p, dx, _, rfl, hp, rfl, _, rfl, _, rfl, _, rfl, t, _, 3, _, rfl, rfl, hs', rfl, _, rfl, t, _, 4, _, rfl, rfl, hs', rfl, p, x, l, i, k, e, m, x4, z, rfl, KA1, R, h4, B, lt, fun H' K' b' => ?_⟩
        exact q H' (by
          have : k.handle i (.write e n m z) = k.handle i (.write e i m z) := rfl
          rw [this]
          exact K') ((But.of_same s1).trans b')
      | _ => cases hdn
theorem scKFlush : FnScope ["self", "found"] ["self"] (defScope (sKee 4)) := ⟨rfl, rfl, rfl, by decide +kernel, rfl, by decide +kernel, by decide +kernel⟩
theorem g_kflush (T : Txt P K mg a) : ∃ fd, FnOk P w K mg base CX0 1 a.kFlush fd ["self"] (spKFlush K a) ∧ Binds K fd ["self"] [] := by
  obtain ⟨fd, F, b⟩ := T.kFlush
  refine ⟨fd, F.ok scKFlush (fun vs H Q E h => ?_) (fun cdv A outer s H vs Q E hr h => ?_), b⟩
  · obtain ⟨p, i, k, rfl, _⟩ := h
    rfl
  · obtain ⟨p, i, k, rfl, ⟨dx, r, l2, w2, hp, t1, t2, t3⟩, B, q⟩ := h
    have hk1 := B.hist
    -- self.records = self.records + self.loose; found = self.waiting; self.loose = (); self.waiting = (); return found
    refine ⟨_, pss_cons (ps_fld (pv 0) (pe_op op_catA (pe_fld (pv 0) rfl) (pe_fld (pv 0) rfl)) rfl) (pss_cons (ps_set (i := 1) scKFlush.nd rfl (Or.inl rfl) (pe_fld (pv 0) rfl))
      (pss_cons (ps_fld (pv 0) (pe_tup pa_nil) rfl) (pss_cons (ps_fld (pv 0) (pe_tup pa_nil) rfl) (pss_one (ps_ret (pv 1)))))), ?_⟩
    refine ⟨_, rfl, p, _, dx, _, _, rfl, hp, T.clK, T.nKr, rfl, _, rfl, p, _, dx, _, _, rfl, hp, T.clK, T.nKl, rfl, ?_⟩
    refine cat_ok t1 t2 (by rw [List.length_map, List.length_map]; omega) fun v H1 s1 tv => ?_
    rw [← List.map_append] at tv
    have hz : ([] : List V).length ≤ sizeLine := by show 0 ≤ sizeLine; decide
    refine ⟨_, rfl, p, _, dx, _, rfl, s1 p _ hp, T.clK, T.nKr, (by show 4 < 1000; decide), ?_⟩
    have ku := kept_upd (u := .ins a.cK dx [(("number" : Str), V.int (i : Nat)), ("records", v), ("loose", l2), ("waiting", w2)]) (s1 p _ hp) (fun z => z)
    refine ⟨_, rfl, p, _, dx, _, _, rfl, upd_same, T.clK, T.nKw, rfl, ?_⟩
    refine ⟨hz, fun c hc => ?_⟩
    have s2 := same_new (o := .tup []) hc
    refine ⟨_, rfl, p, _, dx, _, rfl, s2 p _ upd_same, T.clK, T.nKl, (by show 4 < 1000; decide), ?_⟩
    have ku2 := kept_upd (u := .ins a.cK dx [(("number" : Str), V.int (i : Nat)), ("records", v), ("loose", .ref c), ("waiting", w2)]) (s2 p _ upd_same) (fun z => z)
    refine ⟨hz, fun d hd => ?_⟩
    have s3 := same_new (o := .tup []) hd
    refine ⟨_, rfl, p, _, dx, _, rfl, s3 p _ upd_same, T.clK, T.nKw, (by show 4 < 1000; decide), ?_⟩
    have ku3 := kept_upd (u := .ins a.cK dx [(("number" : Str), V.int (i : Nat)), ("records", v), ("loose", .ref c), ("waiting", .ref d)]) (s3 p _ upd_same) (fun z => z)
    have kall := (((ku.trans (Kept.of_same s2)).trans ku2).trans (Kept.of_same s3)).trans ku3
    have hc1 : SqT K _ c [] := ((ku2.trans (Kept.of_same s3)).trans ku3).sqT (SqT.of upd_same)
    have hd1 : SqT K _ d [] := ku3.sqT (SqT.of upd_same)
    refine ⟨_, rfl, q _ _ ⟨dx, v, .ref c, .ref d, upd_same, tv.at kall, .tup hc1 .nil, .tup hd1 .nil⟩ ((t3.at (Kept.of_same s1)).at kall) ?_⟩
    exact (But.of_same s1).trans (But.upd.trans ((But.of_same s2).trans (But.upd.trans ((But.of_same s3).trans But.upd))))
end
end K41
set_option Elab.async false
set_option linter.all false
set_option maxRecDepth 100000
set_option maxHeartbeats 4000000
/-! L41F: what is settled. -/
namespace K41
open PySem PySem.Spec PyProof.Rows L2 StX

section
variable {X : Cx}
/-- x in t, t a tuple of data -/
def rInTD (K : PySem.W.Frag) : R2 := fun x y H Q => ∃ d ds, Dp K H x d ∧ Dp K H y (.tuple ds) ∧ SeqAt.shaped d = true ∧ SeqAt.shaped (.tuple ds) = true ∧ Q (.bl (ds.any fun z => PyData.eqv z d)) H
theorem op_inTD (hu : X.A.units + 65 < cLine) : OpR X (compareOp .In) (rInTD X.K) := by
  intro pins s σ H x y v u Q I rx ry h
  obtain ⟨d, ds, hd, he, sd, se, q⟩ := h
  obtain ⟨as, r1⟩ := Dp.reads I d x v hd rx
  obtain ⟨bs, r2⟩ := Dp.reads I (.tuple ds) y u he ry
  have h1 : PyData.canLayAll0 ds = true := by
    have := SeqAt.canLay_of_shaped se
    simpa only [PyData.canLay0] using this
  exact SeqAt.in_tuple_reads r2 r1 h1 (SeqAt.canLay_of_shaped sd) (room_in_shaped sd hu) ⟨.bl _, H, I, rfl, q⟩
end

/-- keepers stand at the places of a list -/
def KeesAt (K : PySem.W.Frag) (C : Addr) (H : Hp) (as : List Addr) (ks : List Kp) : Prop := as.length = ks.length ∧ ∀ (i : Nat) p k, as[i]? = some p → ks[i]? = some k → KeeAt K C H p i k
theorem KeesAt.same {K : PySem.W.Frag} {C : Addr} {H H' : Hp} {as : List Addr} {ks : List Kp} (h : KeesAt K C H as ks) (s : Same H H') : KeesAt K C H' as ks := ⟨h.1, fun i p k h1 h2 => (h.2 i p k h1 h2).same s⟩
theorem KeesAt.get {K : PySem.W.Frag} {C : Addr} {H : Hp} {as : List Addr} {ks : List Kp} (h : KeesAt K C H as ks) {i : Nat} {x : V} (hi : (as.map V.ref)[i]? = some x) : ∃ p k, x = .ref p ∧ as[i]? = some p ∧ ks[i]? = some k ∧ KeeAt K C H p i k := by
  rw [List.getElem?_map] at hi
  obtain ⟨p, hp, rfl⟩ := Option.map_eq_some_iff.mp hi
  have hl : i < ks.length := by rw [← h.1]; exact (List.getElem?_eq_some_iff.mp hp).1
  exact ⟨p, ks[i], rfl, hp, List.getElem?_eq_getElem hl, h.2 i p _ hp (List.getElem?_eq_getElem hl)⟩
/-- few keepers with few records -/
structure Few (ks : List Kp) : Prop where
  many : ks.length ≤ 10
  recs : ∀ k ∈ ks, k.recs.length ≤ 100000
  place : ∀ k ∈ ks, ∀ e p x, Rec.take e p x ∈ k.recs → p < 1000000

def spMost : Sp := fun vs H Q _ => ∃ m : Nat, vs = [.int (m : Nat)] ∧ Q (.int (most m : Nat)) H
def spTakers (K : PySem.W.Frag) (a : Ad) : Sp := fun vs H Q _ => ∃ (c : Addr) (as : List Addr) (ks : List Kp) (e : Int) (p : Nat) (v : V) (x : Ent), vs = [.ref c, .int e, .int (p : Nat), v] ∧ SqL K H c (as.map V.ref) ∧ KeesAt K a.cK H as ks ∧ Tp K H v x.d ∧
  Few ks ∧ ∀ H', Same H H' → Q (.int (takersN ks e p x : Nat)) H'
def spSetAt (K : PySem.W.Frag) (a : Ad) : Sp := fun vs H Q _ => ∃ (c : Addr) (as : List Addr) (ks : List Kp) (p : Nat), vs = [.ref c, .int (p : Nat)] ∧ SqL K H c (as.map V.ref) ∧ KeesAt K a.cK H as ks ∧ Few ks ∧
  ∀ (f : Addr) (xs : List V) (ys : List Ent) (H' : Hp), H' f = some (.lst xs) → TpAll K H' xs (ys.map Ent.d) → (∀ x ∈ ys, ∃ e, most ks.length ≤ takersN ks e p x) → (ys = [] → ∀ e x, ¬ most ks.length ≤ takersN ks e p x) → H f = none → Same H H' → Q (.ref f) H'
def spSetRow (K : PySem.W.Frag) (a : Ad) : Sp := fun vs H Q _ => ∃ (c : Addr) (as : List Addr) (ks : List Kp), vs = [.ref c] ∧ SqL K H c (as.map V.ref) ∧ KeesAt K a.cK H as ks ∧ Few ks ∧
  ∀ (t : V) (r : List Ent) (H' : Hp), Tp K H' t (.tuple (r.map Ent.d)) → SettledRow ks.length ks r → Same H H' → Q t H'

section
variable {P : Program} {w : World} {K : PySem.W.Frag} {mg : Str → Option Value} {base : Heap} {a : Ad}
theorem scMost : FnScope ["many"] ["many"] (defScope sMost) := ⟨rfl, rfl, rfl, by decide +kernel, rfl, by decide +kernel, by decide +kernel⟩
theorem g_most (T : Txt P K mg a) : ∃ fd, FnOk P w K mg base CX0 1 a.most fd ["many"] spMost ∧ Binds K fd ["many"] [] := by
  obtain ⟨fd, F, b⟩ := T.most
  have kp := F.kp
  refine ⟨fd, F.ok scMost (fun vs H Q E h => ?_) (fun cdv A outer s H vs Q E hr h => ?_), b⟩
  · obtain ⟨m, rfl, _⟩ := h
    rfl
  · obtain ⟨m, rfl, q⟩ := h
    refine ⟨_, pss_one (ps_ret (pe_op op_add (pe_op op_fdiv (pv 0) pe_int) pe_int)), ?_⟩
    refine ⟨_, rfl, _, _, rfl, rfl, ⟨by decide, by decide⟩, _, _, rfl, rfl, ?_⟩
    have e : ((m : Nat) : Int) / 2 + 1 = ((most m : Nat) : Int) := by unfold most; omega
    show Q (.int (((m : Nat) : Int) / 2 + 1)) H
    rw [e]
    exact q
theorem scTakers : FnScope ["keepers", "epoch", "place", "entry", "record", "keeper"] ["keepers", "epoch", "place", "entry"] (defScope sTakers) := ⟨rfl, rfl, rfl, by decide +kernel, rfl, by decide +kernel, by decide +kernel⟩
theorem g_takers (T : Txt P K mg a) : ∃ fd, FnOk P w K mg base CX0 1 a.takers fd ["keepers", "epoch", "place", "entry"] (spTakers K a) ∧ Binds K fd ["keepers", "epoch", "place", "entry"] [] := by
  obtain ⟨fd, F, b⟩ := T.takers
  refine ⟨fd, F.ok scTakers (fun vs H Q E h => ?_) (fun cdv A outer s H vs Q E hr h => ?_), b⟩
  · obtain ⟨c, as, ks, e, p, v, x, rfl, _⟩ := h
    rfl
  · obtain ⟨c, as, ks, e, p, v, x, rfl, hc, hks, tv, few, q⟩ := h
    have hu : (A.deeper (envOfC "takers" (defScope sTakers) s.heap.objs.size a.takers cdv)).units + 65 < cLine := by have := hr.un; omega
    refine ⟨_, pss_cons (ps_set (i := 4) scTakers.nd rfl (Or.inr rfl) (pe_tup (pa_cons pe_str (pa_cons (pv 1) (pa_cons (pv 2) (pa_cons (pv 3) pa_nil))))))
      (pss_one (ps_ret (pe_callB call_len_seq rfl T.nLen PySem.boot_len (pa_cons (pe_lc (own := [("keeper", 5)]) (g := gName 5) (tt := tTest (tOp (rInTD K) (tVar 4) (tFld K (tVar 5) "records"))) rfl scTakers.nd (pi_list (pv 0))
        (blkOk_by (own := [("keeper", 5)]) (N := ["keepers", "epoch", "place", "entry", "record", "keeper"]) (sc := defScope sTakers) (by decide +kernel)) (fun _ _ _ _ _ => pg_name (i := 5) scTakers.nd rfl (Or.inl rfl))
        (fun _ _ _ _ _ => pts_one (by exact (pt_cmpR (op_inTD hu) (pv 4) (pe_fld (pv 5) rfl) rfl))) (fun _ _ _ _ _ => pv 5)) pa_nil)))), ?_⟩
    refine ⟨_, rfl, _, rfl, _, rfl, (by show 4 ≤ sizeLine; decide), fun t ht => ?_⟩
    have s1 := same_new (o := .tup [V.str "take", V.int e, V.int (p : Nat), v]) ht
    have tt : Tp K (upd H t (.tup [V.str "take", V.int e, V.int (p : Nat), v])) (.ref t) (Rec.take e p x).d := mk4 (SqT.of upd_same) (.str _) (.int _) (.int _) (tv.at (Kept.of_same s1))
    refine ⟨_, rfl, c, rfl, ⟨_, s1.seq hc⟩, fun D hD => ?_⟩
    have s2 := same_new (o := .lst []) hD
    refine lc_list (K := K) (a := c) (xs := as.map V.ref) (fun i H' => ∃ acc, H' D = some (.lst acc) ∧ acc.length = ((ks.take i).filter fun k => decide (Rec.take e p x ∈ k.recs)).length ∧ Same (upd H t (.tup [V.str "take", V.int e, V.int (p : Nat), v])) H')
      ⟨[], upd_same, by simp, s2⟩ (fun i H' _ ⟨_, _, _, s3⟩ => (s1.trans s3).seq hc) ?_ ?_
    · rintro i y H' hi ⟨acc, hacc, hlen, s3⟩
      obtain ⟨pk, k, rfl, h1, h2, KA⟩ := (hks.same (s1.trans s3)).get hi
      obtain ⟨dx, r, l2, w2, hp, t1, t2, t3⟩ := KA
      refine ⟨rfl, _, rfl, _, rfl, pk, _, dx, _, _, rfl, hp, T.clK, T.nKr, rfl, (Rec.take e p x).d, k.recs.map Rec.d, Tp.dp _ _ (tt.at (Kept.of_same s3)), Tp.dp _ _ t1, rec_shaped _, tup_shaped rec_lay rec_depth (by decide) _, _, rfl, ?_⟩
      have ek : ks.take (i + 1) = ks.take i ++ [k] := by rw [List.take_add_one, h2]; rfl
      rw [recs_any]
      by_cases c : Rec.take e p x ∈ k.recs
      · rw [decide_eq_true c]
        refine iteT ⟨_, rfl, acc, hacc, ?_, acc ++ [.ref pk], upd_same, ?_, fun b o h => ?_⟩
        · refine line_of ?_
          have := List.length_filter_le (fun k : Kp => decide (Rec.take e p x ∈ k.recs)) (ks.take i)
          rw [List.length_take] at this
          have := few.many
          omega
        · have ef : [k].filter (fun k : Kp => decide (Rec.take e p x ∈ k.recs)) = [k] := by simp [c]
          rw [ek, List.filter_append, List.length_append, List.length_append, hlen, ef]
          rfl
        · have hb := s3 b o h
          rw [upd_ne (ne_of_none h hD)]
          exact hb
      · rw [decide_eq_false c]
        refine iteF ⟨acc, hacc, ?_, s3⟩
        have ef : [k].filter (fun k : Kp => decide (Rec.take e p x ∈ k.recs)) = [] := by simp [c]
        rw [ek, List.filter_append, List.length_append, hlen, ef]
        rfl
    · rintro H' ⟨acc, hacc, hlen, s3⟩
      refine ⟨D, _, rfl, .inl (SqL.of hacc), ?_⟩
      rw [hlen, List.length_map, hks.1, List.take_length]
      exact q H' (s1.trans s3)
theorem take_next {α : Type} {l : List α} {i : Nat} {x : α} (h : l[i]? = some x) : l.take (i + 1) = l.take i ++ [x] := by rw [List.take_add_one, h]; rfl
theorem scSetAt : FnScope ["keepers", "place", "found", "keeper", "record"] ["keepers", "place"] (defScope sSetAt) := ⟨rfl, rfl, rfl, by decide +kernel, rfl, by decide +kernel, by decide +kernel⟩
theorem g_setAt (T : Txt P K mg a) : ∃ fd, FnOk P w K mg base CX0 2 a.setAt fd ["keepers", "place"] (spSetAt K a) ∧ Binds K fd ["keepers", "place"] [] := by
  obtain ⟨fd, F, b⟩ := T.setAt
  obtain ⟨ft, GT, bt⟩ := g_takers (P := P) (w := w) (base := base) T
  obtain ⟨fm, GM, bm⟩ := g_most (P := P) (w := w) (base := base) T
  obtain ⟨_, Ft, _⟩ := T.takers
  obtain ⟨_, Fm, _⟩ := T.most
  refine ⟨fd, F.ok scSetAt (fun vs H Q E h => ?_) (fun cdv A outer s H vs Q E hr h => ?_), b⟩
  · obtain ⟨c, as, ks, p, rfl, _⟩ := h
    rfl
  · obtain ⟨c, as, ks, p, rfl, hc, hks, few, q⟩ := h
    have hu : (A.deeper (envOfC "settled_at" (defScope sSetAt) s.heap.objs.size a.setAt cdv)).units + 65 < cLine := by have := hr.un; omega
    refine ⟨_, pss_cons (ps_set (i := 2) scSetAt.nd rfl (Or.inl rfl) (pe_lst pa_nil))
      (pss_cons (ps_for PassesOwn.never rfl (pi_list (pv 0)) (pg_name (i := 3) scSetAt.nd rfl (Or.inl rfl))
        (pss_one (ps_for PassesOwn.never rfl (pi_tup (pe_fld (pv 3) rfl)) (pg_name (i := 4) scSetAt.nd rfl (Or.inl rfl))
          (pss_one (ps_if (PW.pt (pw_and (pt_cmpR op_eq (pe_ix ix_tup (pv 4) pe_int (fun _ _ => rfl)) pe_str (nomark _)) (pw_and (pt_cmpR op_eq (pe_ix ix_tup (pv 4) pe_int (fun _ _ => rfl)) (pv 1) (nomark _))
              (pw_and1 (pt_cmpR (op_notInD hu) (pe_ix ix_tup (pv 4) pe_int (fun _ _ => rfl)) (pv 2) rfl)))))
            (pss_one (ps_if (pt_cmpR op_ge (pe_call GT hr rfl T.gTakers Ft.kp bt .nil pass0 (pa_cons (pv 0) (pa_cons (pe_ix ix_tup (pv 4) pe_int (fun _ _ => rfl)) (pa_cons (pv 1) (pa_cons (pe_ix ix_tup (pv 4) pe_int (fun _ _ => rfl)) pa_nil)))))
                (pe_call GM hr rfl T.gMost Fm.kp bm .nil pass0 (pa_cons (pe_callB call_len_seq rfl T.nLen PySem.boot_len (pa_cons (pv 0) pa_nil)) pa_nil)) (nomark _))
              (pss_one (ps_expr (pe_bm PySem.F.plainAttrs_list PySem.F.slot_list_append PySem.F.type_list_append mt_append (pv 2) (pa_cons (pe_ix ix_tup (pv 4) pe_int (fun _ _ => rfl)) pa_nil)))) pss_nil)) pss_nil)))))
      (pss_one (ps_ret (pv 2)))), ?_⟩
    refine ⟨(by show 0 ≤ sizeLine; decide), fun f hf => ?_⟩
    have s0 := same_new (o := .lst []) hf
    -- the outer loop
    refine ⟨_, rfl, c, rfl, ⟨_, s0.seq hc⟩, for_list (K := K) (a := c) (xs := as.map V.ref)
      (fun i σ H' => ∃ (v3 v4 : Option V) (xs : List V) (ys : List Ent), σ = [some (.ref c), some (.int (p : Nat)), some (.ref f), v3, v4] ∧ H' f = some (.lst xs) ∧ TpAll K H' xs (ys.map Ent.d) ∧ (∀ x ∈ ys, ∃ e, most ks.length ≤ takersN ks e p x) ∧
        (∀ (n : Nat) k e x, n < i → ks[n]? = some k → Rec.take e p x ∈ k.recs → most ks.length ≤ takersN ks e p x → x ∈ ys) ∧ ys.length ≤ i * 100000 ∧ Same H H')
      ⟨none, none, [], [], rfl, upd_same, .nil, fun x h => by simp at h, fun n k e x h => absurd h (Nat.not_lt_zero _), Nat.zero_le _, s0⟩ (fun i σ H' _ ⟨_, _, _, _, _, _, _, _, _, _, s1⟩ => s1.seq hc) ?_ ?_⟩
    · rintro i y σ H' hi ⟨v3, v4, xs, ys, rfl, hxs, txs, h1, h2, h3, s1⟩
      obtain ⟨pk, k, rfl, e1, e2, KA⟩ := (hks.same s1).get hi
      have hkm := List.mem_of_getElem? e2
      have hil : i < ks.length := (List.getElem?_eq_some_iff.mp e2).1
      have hm10 := few.many
      obtain ⟨dx, r, l2, w2, hp, t1, t2, t3⟩ := KA
      obtain ⟨ra, rs, rfl, hrs, hra⟩ := tp_tup t1
      have hrl := hra.len
      rw [List.length_map] at hrl
      have hrec := few.recs k hkm
      -- the inner loop
      refine ⟨_, rfl, pk, _, dx, _, _, rfl, hp, T.clK, T.nKr, rfl, ra, rfl, ⟨_, hrs⟩, for_tup (K := K) (a := ra) (xs := rs)
        (fun j σ H2 => ∃ (v4 : Option V) (xs : List V) (ys : List Ent), σ = [some (.ref c), some (.int (p : Nat)), some (.ref f), some (.ref pk), v4] ∧ H2 f = some (.lst xs) ∧ TpAll K H2 xs (ys.map Ent.d) ∧ (∀ x ∈ ys, ∃ e, most ks.length ≤ takersN ks e p x) ∧
          (∀ (n : Nat) k e x, n < i → ks[n]? = some k → Rec.take e p x ∈ k.recs → most ks.length ≤ takersN ks e p x → x ∈ ys) ∧ (∀ e x, Rec.take e p x ∈ k.recs.take j → most ks.length ≤ takersN ks e p x → x ∈ ys) ∧ ys.length ≤ i * 100000 + j ∧ But f H' H2 ∧ Same H H2)
        ⟨v4, xs, ys, rfl, hxs, txs, h1, h2, fun e x h => absurd h (by rw [List.take_zero]; exact List.not_mem_nil), Nat.le_add_right_of_le h3, But.refl _ _, s1⟩ (fun j σ H2 _ ⟨_, _, _, _, _, _, _, _, _, _, b2, s2⟩ => (b2.kept hxs (fun z => z)).sqT hrs) ?_ ?_⟩
      · have hxs0 := hxs
        rintro j y σ H2 hj ⟨v4, xs, ys, rfl, hxs, txs, h1, h2, h3, h4, b2, s2⟩
        have kH := b2.kept hxs0 (fun z => z)
        obtain ⟨d, hd, ty⟩ := (hra.at kH).getV hj
        rw [List.getElem?_map] at hd
        obtain ⟨rec, hrec', rfl⟩ := Option.map_eq_some_iff.mp hd
        have ek := take_next hrec'
        have hjl : j < k.recs.length := (List.getElem?_eq_some_iff.mp hrec').1
        cases rec with
        | prom e =>
          obtain ⟨t, rfl, hs⟩ := tp_prom ty
          refine ⟨_, rfl, t, _, 0, _, rfl, rfl, hs, rfl, rfl, _, rfl, iteF (iteF ?_)⟩
          refine ⟨some (.ref t), xs, ys, rfl, hxs, txs, h1, h2, fun e' x h => ?_, by omega, b2, s2⟩
          rw [ek] at h
          rcases List.mem_append.mp h with h | h
          · exact h3 e' x h
          · exact nomatch List.mem_singleton.mp h
        | take e n x =>
          obtain ⟨t, u, rfl, hs, hu'⟩ := tp_take ty
          refine ⟨_, rfl, t, _, 0, _, rfl, rfl, hs, rfl, rfl, _, rfl, iteT ⟨_, rfl, t, _, 2, _, rfl, rfl, hs, rfl, _, rfl, rfl, _, rfl, ?_⟩⟩
          -- what holds if nothing is added
          have skip : (n = p → most ks.length ≤ takersN ks e p x → x ∈ ys) → ∃ (v4 : Option V) (xs : List V) (ys : List Ent), [some (V.ref c), some (V.int (p : Nat)), some (V.ref f), some (V.ref pk), some (V.ref t)] = [some (.ref c), some (.int (p : Nat)), some (.ref f), some (.ref pk), v4] ∧
              H2 f = some (.lst xs) ∧ TpAll K H2 xs (ys.map Ent.d) ∧ (∀ x ∈ ys, ∃ e, most ks.length ≤ takersN ks e p x) ∧ (∀ (n : Nat) k e x, n < i → ks[n]? = some k → Rec.take e p x ∈ k.recs → most ks.length ≤ takersN ks e p x → x ∈ ys) ∧
              (∀ e x, Rec.take e p x ∈ k.recs.take (j + 1) → most ks.length ≤ takersN ks e p x → x ∈ ys) ∧ ys.length ≤ i * 100000 + (j + 1) ∧ But f H' H2 ∧ Same H H2 := fun no => by
            refine ⟨some (.ref t), xs, ys, rfl, hxs, txs, h1, h2, fun e' x' h hm => ?_, by omega, b2, s2⟩
            rw [ek] at h
            rcases List.mem_append.mp h with h | h
            · exact h3 e' x' h hm
            · have h' := List.mem_singleton.mp h
              cases h'
              exact no rfl hm
          by_cases z : n = p
          · subst z
            rw [decide_eq_true rfl]
            refine iteT ⟨_, rfl, t, _, 3, _, rfl, rfl, hs, rfl, _, rfl, x.d, ys.map Ent.d, Tp.dp _ _ hu', .lst (SqL.of hxs) (TpAll.dp _ _ txs), ent_shaped x, lst_shaped ent_lay ent_depth (by decide) ys, _, rfl, ?_⟩
            rw [ents_any]
            by_cases hin : x ∈ ys
            · rw [decide_eq_true hin]
              exact iteF (skip fun _ _ => hin)
            · rw [decide_eq_false hin]
              refine iteT ⟨_, rfl, _, rfl, t, _, 1, _, rfl, rfl, hs, rfl, _, rfl, _, rfl, t, _, 3, _, rfl, rfl, hs, rfl, c, as, ks, e, n, u, x, rfl, s2.seq hc, hks.same s2, hu', few, fun H3 s3 => ?_⟩
              have s23 := s2.trans s3
              have em : (as.map V.ref).length = ks.length := by rw [List.length_map, hks.1]
              refine ⟨_, rfl, c, _, rfl, .inl (s23.seq hc), (as.map V.ref).length, rfl, _, _, rfl, rfl, _, rfl, ?_⟩
              rw [em]
              by_cases big : most ks.length ≤ takersN ks e n x
              · rw [decide_eq_true (show ((most ks.length : Nat) : Int) ≤ (takersN ks e n x : Nat) by omega)]
                have hf3 := s3 _ _ hxs
                have k3 := Kept.of_same s3
                have hxl := txs.len
                rw [List.length_map] at hxl
                refine iteT ⟨_, rfl, .inl ⟨rfl, _, SqL.of hf3⟩, _, rfl, t, _, 3, _, rfl, rfl, k3.sqT hs, rfl, f, xs, u, rfl, rfl, hf3, line_of (by omega), ?_⟩
                have ku := kept_upd (u := .lst (xs ++ [u])) hf3 (fun z => z)
                refine ⟨some (.ref t), xs ++ [u], ys ++ [x], rfl, upd_same, ?_, fun x' h => ?_, fun n' k' e' x' hn hk hm hb => List.mem_append_left _ (h2 n' k' e' x' hn hk hm hb), fun e' x' h hm => ?_, by rw [List.length_append]; show ys.length + 1 ≤ _; omega, (b2.trans (But.of_same s3)).trans But.upd, fun b o h => ?_⟩
                · rw [List.map_append]
                  exact ((txs.at k3).at ku).app (.one ((hu'.at k3).at ku))
                · rcases List.mem_append.mp h with h | h
                  · exact h1 x' h
                  · rw [List.mem_singleton.mp h]
                    exact ⟨e, big⟩
                · rw [ek] at h
                  rcases List.mem_append.mp h with h | h
                  · exact List.mem_append_left _ (h3 e' x' h hm)
                  · have h' := List.mem_singleton.mp h
                    cases h'
                    simp
                · rw [upd_ne (ne_of_none h hf)]
                  exact s23 b o h
              · rw [decide_eq_false (show ¬ ((most ks.length : Nat) : Int) ≤ (takersN ks e n x : Nat) by omega)]
                refine iteF ⟨some (.ref t), xs, ys, rfl, s3 _ _ hxs, txs.at (Kept.of_same s3), h1, h2, fun e' x' h hm => ?_, by omega, b2.trans (But.of_same s3), s23⟩
                rw [ek] at h
                rcases List.mem_append.mp h with h | h
                · exact h3 e' x' h hm
                · have h' := List.mem_singleton.mp h
                  cases h'
                  exact absurd hm big
          · rw [decide_eq_false (show ¬ V.int ((n : Nat) : Int) = V.int ((p : Nat) : Int) from fun h => z (by injection h with h; omega))]
            exact iteF (iteF (skip fun h => absurd h z))
      · rintro σ H2 ⟨v4, xs, ys, rfl, hxs, txs, g1, g2, g3, g4, b2, s2⟩
        refine ⟨some (.ref pk), v4, xs, ys, rfl, hxs, txs, g1, fun n k' e x hn hk hm hb => ?_, by omega, s2⟩
        by_cases z : n = i
        · rw [z, e2] at hk
          cases hk
          refine g3 e x ?_ hb
          rw [List.take_of_length_le (by omega)]
          exact hm
        · exact g2 n k' e x (by omega) hk hm hb
    · rintro σ H' ⟨v3, v4, xs, ys, rfl, hxs, txs, h1, h2, h3, s1⟩
      refine ⟨_, rfl, q f xs ys H' hxs txs h1 (fun e0 e x hm => ?_) hf s1⟩
      have hf : ks.filter (fun k => decide (Rec.take e p x ∈ k.recs)) ≠ [] := fun z => by
        have hm' := hm
        unfold takersN at hm'
        rw [z] at hm'
        simp [K41.most] at hm'
      obtain ⟨k, hk⟩ := List.exists_mem_of_ne_nil _ hf
      obtain ⟨hk1, hk2⟩ := List.mem_filter.mp hk
      obtain ⟨n, hn⟩ := List.getElem?_of_mem hk1
      have hlt : n < (as.map V.ref).length := by rw [List.length_map, hks.1]; exact (List.getElem?_eq_some_iff.mp hn).1
      have := h2 n k e x hlt hn (of_decide_eq_true hk2) hm
      rw [e0] at this
      simp at this
theorem scSetRow : FnScope ["keepers", "found"] ["keepers"] (defScope sSetRow) := ⟨rfl, rfl, rfl, by decide +kernel, rfl, by decide +kernel, by decide +kernel⟩
theorem g_setRow (T : Txt P K mg a) : ∃ fd, FnOk P w K mg base CX0 3 a.setRow fd ["keepers"] (spSetRow K a) ∧ Binds K fd ["keepers"] [] := by
  obtain ⟨fd, F, b⟩ := T.setRow
  obtain ⟨fs, GS, bs⟩ := g_setAt (P := P) (w := w) (base := base) T
  obtain ⟨_, Fs, _⟩ := T.setAt
  refine ⟨fd, F.ok scSetRow (fun vs H Q E h => ?_) (fun cdv A outer s H vs Q E hr h => ?_), b⟩
  · obtain ⟨c, as, ks, rfl, _⟩ := h
    rfl
  · obtain ⟨c, as, ks, rfl, hc, hks, few, q⟩ := h
    refine ⟨_, pss_cons (ps_set (i := 1) scSetRow.nd rfl (Or.inl rfl) (pe_lst pa_nil))
      (pss_cons (ps_while PassesOwn.never (pt_cmpR (op_ne_nil hr.units0) (pe_call GS hr rfl T.gSetAt Fs.kp bs .nil pass0 (pa_cons (pv 0) (pa_cons (pe_callB call_len_seq rfl T.nLen PySem.boot_len (pa_cons (pv 1) pa_nil)) pa_nil))) (pe_lst pa_nil) (nomark _))
        (pss_one (ps_expr (pe_bm PySem.F.plainAttrs_list PySem.F.slot_list_append PySem.F.type_list_append mt_append (pv 1) (pa_cons (pe_ix ix_list
          (pe_call GS hr rfl T.gSetAt Fs.kp bs .nil pass0 (pa_cons (pv 0) (pa_cons (pe_callB call_len_seq rfl T.nLen PySem.boot_len (pa_cons (pv 1) pa_nil)) pa_nil))) pe_int (fun _ _ => rfl)) pa_nil)))))
      (pss_one (ps_ret (pe_callTy call_tuple_of rfl T.nTuple (by decide +kernel) (pa_cons (pv 1) pa_nil))))), ?_⟩
    refine ⟨(by show 0 ≤ sizeLine; decide), fun f hf => ?_⟩
    have s0 := same_new (o := .lst []) hf
    have low : ∀ e p x, K41.most ks.length ≤ takersN ks e p x → p < 1000000 := fun e p x hm => by
      have hf : ks.filter (fun k => decide (Rec.take e p x ∈ k.recs)) ≠ [] := fun z => by
        unfold takersN at hm
        rw [z] at hm
        simp [K41.most] at hm
      obtain ⟨k, hk⟩ := List.exists_mem_of_ne_nil _ hf
      obtain ⟨hk1, hk2⟩ := List.mem_filter.mp hk
      exact few.place k hk1 e p x (of_decide_eq_true hk2)
    refine ⟨fun m σ H' => ∃ (xs : List V) (ys : List Ent), σ = [some (.ref c), some (.ref f)] ∧ H' f = some (.lst xs) ∧ TpAll K H' xs (ys.map Ent.d) ∧ (∀ (i : Nat) x, ys[i]? = some x → ∃ e, K41.most ks.length ≤ takersN ks e i x) ∧ Same H H' ∧ m + ys.length = 1000000 + 1 ∧ ys.length ≤ 1000000,
      ⟨1000001, [], [], rfl, upd_same, .nil, fun i x h => by simp at h, s0, rfl, by decide⟩, ?_⟩
    rintro m σ H' ⟨xs, ys, rfl, hxs, txs, h1, s1, hm, hle⟩
    have hxl := txs.len
    rw [List.length_map] at hxl
    refine ⟨_, rfl, _, rfl, f, _, rfl, .inl (SqL.of hxs), c, as, ks, ys.length, by rw [hxl]; rfl, s1.seq hc, hks.same s1, few, fun g zs us H1 hg tg g1 g2 hg0 s2 => ?_⟩
    refine ⟨(by show 0 ≤ sizeLine; decide), fun o ho => ?_⟩
    have s3 := same_new (o := .lst []) ho
    have hgl := tg.len
    rw [List.length_map] at hgl
    refine ⟨g, o, zs, rfl, rfl, SqL.of (s3 _ _ hg), SqL.of upd_same, _, rfl, ?_⟩
    have s123 := s1.trans (s2.trans s3)
    have hxs3 := s3 _ _ (s2 _ _ hxs)
    have k3 := Kept.of_same (s2.trans s3)
    cases us with
    | nil =>
      have e0 : zs = [] := List.length_eq_zero_iff.mp (by rw [hgl]; rfl)
      subst e0
      refine iteF ?_
      have hno := g2 rfl
      refine ⟨_, rfl, f, xs, rfl, .inl ⟨SqL.of hxs3, fun t ht => ?_⟩⟩
      have s4 := same_new (o := .tup xs) ht
      exact q _ ys _ (.tup (SqT.of upd_same) ((txs.at k3).at (Kept.of_same s4))) ⟨h1, fun e x => hno e x⟩ (s123.trans s4)
    | cons u us =>
      cases zs with
      | nil => simp at hgl
      | cons z zs =>
        refine iteT ?_
        obtain ⟨e1, c1⟩ := g1 u (by simp)
        have hlt := low _ _ _ c1
        refine ⟨fun σ' H2 => ∃ (xs : List V) (ys' : List Ent), σ' = [some (.ref c), some (.ref f)] ∧ H2 f = some (.lst xs) ∧ TpAll K H2 xs (ys'.map Ent.d) ∧ (∀ (i : Nat) x, ys'[i]? = some x → ∃ e, K41.most ks.length ≤ takersN ks e i x) ∧ Same H H2 ∧ ys'.length = ys.length + 1, ?_, ?_⟩
        · rintro σ' H2 ⟨xs', ys', rfl, a1, a2, a3, a4, a5⟩
          exact ⟨m - 1, by omega, xs', ys', rfl, a1, a2, a3, a4, by omega, by omega⟩
        · refine ⟨_, rfl, .inl ⟨rfl, _, SqL.of hxs3⟩, _, rfl, _, rfl, f, _, rfl, .inl (SqL.of hxs3), c, as, ks, ys.length, by rw [hxl]; rfl, s123.seq hc, hks.same s123, few, fun g' zs' us' H4 hg' tg' g1' g2' hg0' s4 => ?_⟩
          cases us' with
          | nil => exact absurd c1 (g2' rfl e1 u)
          | cons u' us' =>
            obtain ⟨z', zr, rfl, tz, _⟩ := tp_cons tg'
            have hxs4 := s4 _ _ hxs3
            have k4 := Kept.of_same s4
            refine ⟨g', _, 0, z', rfl, rfl, SqL.of hg', at_of (j := 0) rfl rfl, f, xs, z', rfl, rfl, hxs4, line_of (by omega), ?_⟩
            have ku := kept_upd (u := .lst (xs ++ [z'])) hxs4 (fun z => z)
            refine ⟨xs ++ [z'], ys ++ [u'], rfl, upd_same, ?_, fun i x hi => ?_, fun b o' h => ?_, by simp⟩
            · rw [List.map_append]
              exact (((txs.at k3).at k4).at ku).app (.one (tz.at ku))
            · by_cases c' : i < ys.length
              · rw [List.getElem?_append_left c'] at hi
                exact h1 i x hi
              · have hil := (List.getElem?_eq_some_iff.mp hi).1
                simp at hil
                have e : i = ys.length := by omega
                subst e
                simp at hi
                subst hi
                exact g1' u' (by simp)
            · rw [upd_ne (ne_of_none h hf)]
              exact s4 b o' (s123 b o' h)
end
end K41
set_option Elab.async false
set_option linter.all false
set_option maxRecDepth 100000
set_option maxHeartbeats 4000000
/-! L41G: list(d.values()), a dict made over a range; the newest row of some rows. -/
namespace K41
open PySem PySem.Spec PyProof.Rows L2 StX

section
variable {X : Cx}
/-- list(d.values()): a new list -/
def tListVals (td : TE) : TE := fun σ H Q => td σ H fun x H1 => ∃ a kvs, x = V.ref a ∧ H1 a = some (.dK kvs) ∧ ∀ p, H1 p = none → Q (.ref p) (upd H1 p (.lst (kvs.map (·.2))))
variable {o : Expr} {p pos apos mpos : Pos} {td : TE}
theorem pe_listVals (hc : X.calm = true) (hg : Gl X "list") (hm : X.mg "list" = none) (hd : PE X o td) (hbase : attributeBase o "values" X.env (eval o X.env) = eval o X.env := by rfl) (hline : (apos.endLine == mpos.line) = true := by rfl)
    (na : starEach [Expr.Call (.Attribute o "values" apos) [] [] mpos] X.env = (false, eval (Expr.Call (.Attribute o "values" apos) [] [] mpos) X.env) :: starEach [] X.env := by rfl) :
    PE X (.Call (.Name "list" p) [.Call (.Attribute o "values" apos) [] [] mpos] [] pos) (tListVals td) := by
  refine ⟨fun pins s σ H Q I h => ?_⟩
  refine Call_ (ld_blt I hg hm boot_list (PyProof.Rows.callWith_type1 (args_cons (wpAny_Call_method0_late hbase hline (thn (hd.run pins s σ H _ I h) fun v s1 ⟨x, H1, I1, r1, a, kvs, ex, ha, q⟩ => ?_)) na) na))
  subst ex
  obtain rfl : v = Value.ref a := r1
  obtain ⟨hz, hsys, vs, rel, dof⟩ := dk_of I1.hok ha
  obtain ⟨ep, dat⟩ := dof.dictAt
  have dat' := dat
  obtain ⟨ob, es, ho, ex, hdat, hko, hpr, hnd⟩ := dat'
  refine ⟨"dict", "dict.values", PySem.F.plainAttrs_dict, PySem.F.slot_dict_values, PySem.F.type_dict_values, ⟨ob, ho, ex.1⟩, fun b e => ?_, Calls.callWith_builtin rfl (PySem.evalArgs_none ?_)⟩
  · cases e
    exact ⟨ob, ho, ex.2.1⟩
  refine call_meetsIn PySem.F.slot_dict_values ⟨ob, ho, ex.1⟩ PySem.F.entry_dict_values (PySem.F.args_dict_values_1 _) (meets_dict_values (mixKind X.prog X.w) a hsys) ⟨⟨vs, dof⟩, ?_⟩
  have k1 : ∀ b u, s1.heap.get? b = some u → (s1.heap.push { cls := .type "dict_values", data := .fields #[.ref a] }).get? b = some u := fun b u e => Heap.get?_push_of_some _ e
  have dat1 : (s1.heap.push { cls := .type "dict_values", data := .fields #[.ref a] }).DictAt (mixKind X.prog X.w) a vs ep := dat.keep k1
  have hl : kvs.length = vs.length := KV.length rel
  have I2 : L2.Inv X pins σ H1 { s1 with heap := s1.heap.push { cls := .type "dict_values", data := .fields #[.ref a] } } := I1.kept (t' := s1.toks) k1
  refine args_nil ?_
  refine PySem.W.kdl_call (PySem.W.kdl_values (knd := mixKind X.prog X.w) (kvs := vs) (ep := ep)) (I.ok.hd hc) ⟨⟨_, Heap.get?_push_size _ rfl, rfl, rfl⟩, dat1⟩ (by rw [← hl]; exact hz) fun h' tk acc' c' hkeep hS hacc => ?_
  have hv : Vals (kvs.map (·.2)) acc'.toList := vals_of_at (by rw [List.length_map]; exact hl.trans (hacc.1.symm.trans Array.length_toList.symm)) fun j x w h1 h2 => by
    obtain ⟨k, hk⟩ := hacc.2 j w (by rw [← Array.getElem?_toList]; exact h2)
    obtain ⟨y, e1, r1⟩ := KV.at' rel hk
    rw [List.getElem?_map, e1] at h1
    cases h1
    exact r1
  refine ⟨.ref _, upd H1 _ (.lst (kvs.map (·.2))), I2.laid (t' := tk) hkeep (Nat.le_refl _) (show ObjOk X.prog X.w _ _ _ (.lst (kvs.map (·.2))) from ⟨by rw [List.length_map]; exact hz, acc'.toList, c', hv, by rw [Array.toArray_toList]; exact hS⟩), rfl, q _ (I2.hok.fresh (Nat.le_refl _))⟩
end
/-- over a range -/
theorem dc_range {lo : Int} {n : Nat} {g : TG} {tt : TT} {tk tv : TE} {vs : List Nat} {σ : L2.St} {H1 : Hp} {D : Addr} {Qd : Hp → Prop} (Pv : Nat → Hp → Prop) (h0 : Pv 0 (upd H1 D (.dK [])))
    (hs : ∀ i H, i < n → Pv i H → g (.int (lo + i)) (wipe σ vs) H fun σ2 H2 => wipe σ2 vs = wipe σ vs ∧ tt σ2 H2 fun b H3 =>
      if b = true then tk σ2 H3 fun y H4 => tv σ2 H4 fun z H5 => ∃ kvs k, y = kV k ∧ H5 D = some (.dK kvs) ∧ kvs.length < sizeLine ∧ Pv (i + 1) (upd H5 D (.dK (putK kvs k z))) else Pv (i + 1) H3) (hd : ∀ H, Pv n H → Qd H) :
    ∃ W : Nat → Nat → Hp → Prop, (∃ m, W 0 m (upd H1 D (.dK []))) ∧ ∀ i m H, W i m H →
      ((Itr lo n).stop i H ∧ Qd H) ∨ ((Itr lo n).go i H ∧ ∃ Nx : Hp → Prop, (∀ H', Nx H' → ∃ m', m' < m ∧ W (i + 1) m' H') ∧ ∀ x H', (Itr lo n).yld i H x H' → g x (wipe σ vs) H' fun σ2 H2 => wipe σ2 vs = wipe σ vs ∧ tt σ2 H2 fun b H3 =>
        if b = true then tk σ2 H3 fun y H4 => tv σ2 H4 fun z H5 => ∃ kvs k, y = kV k ∧ H5 D = some (.dK kvs) ∧ kvs.length < sizeLine ∧ Nx (upd H5 D (.dK (putK kvs k z))) else Nx H3) := by
  refine ⟨fun i m H => m = n - i ∧ i ≤ n ∧ Pv i H, ⟨n, by simp, Nat.zero_le _, h0⟩, ?_⟩
  rintro i m H ⟨rfl, hi, p⟩
  by_cases hlt : i < n
  · refine .inr ⟨hlt, Pv (i + 1), fun H' p' => ⟨n - (i + 1), by omega, rfl, hlt, p'⟩, fun x H' y => ?_⟩
    obtain ⟨e, y⟩ := y
    subst e y
    exact hs i _ hlt p
  · have e : i = n := by omega
    subst e
    exact .inl ⟨Nat.le_refl _, hd H p⟩

abbrev rLen (K : PySem.W.Frag) : List V → Hp → VK → Prop := fun xs H Q => ∃ p ys, xs = [V.ref p] ∧ (SqL K H p ys ∨ SqT K H p ys) ∧ Q (V.int (ys.length : Nat)) H

theorem tYes_ {σ : L2.St} {H : Hp} {Q : Bool → Hp → Prop} (h : Q true H) : tYes σ H Q := h

/-! ### the newest row -/
theorem longest_max {rs : List Row} {m : Int} (h1 : m ∈ (0 : Int) :: rs.map fun r => ((r.length : Nat) : Int)) (h2 : ∀ y ∈ (0 : Int) :: rs.map (fun r => ((r.length : Nat) : Int)), y ≤ m) : m = ((longest rs : Nat) : Int) := by
  have hm := maxN_fold (rs.map List.length) 0
  have a1 : m ≤ ((longest rs : Nat) : Int) := by
    rcases List.mem_cons.mp h1 with h | h
    · omega
    · obtain ⟨r, hr, rfl⟩ := List.mem_map.mp h
      have := hm.2 r.length (List.mem_map.mpr ⟨r, hr, rfl⟩)
      unfold longest maxN
      omega
  have a2 : ((longest rs : Nat) : Int) ≤ m := by
    rcases maxN_mem (rs.map List.length) 0 with h | h
    · have := h2 0 (List.mem_cons.mpr (.inl rfl))
      unfold longest maxN
      omega
    · obtain ⟨r, hr, e⟩ := List.mem_map.mp h
      have := h2 _ (List.mem_cons.mpr (.inr (List.mem_map.mpr ⟨r, hr, rfl⟩)))
      unfold longest maxN
      omega
  omega
theorem maxE_is {l : List (Int × Ent)} {m : Int} (h1 : m ∈ l.map (·.1)) (h2 : ∀ y ∈ l.map (·.1), y ≤ m) : m = maxE l := by
  obtain ⟨q, hq, rfl⟩ := List.mem_map.mp h1
  have a1 := maxE_le l q hq
  obtain ⟨q', hq', e⟩ := maxE_mem l (List.ne_nil_of_mem hq)
  have a2 := h2 _ (List.mem_map.mpr ⟨q', hq', rfl⟩)
  omega

def spNewest (K : PySem.W.Frag) : Sp := fun vs H Q _ => ∃ (c : Addr) (xs : List V) (rs : List Row), vs = [.ref c] ∧ SqL K H c xs ∧ TpAll K H xs (rs.map rowD) ∧ rs.length ≤ 10 ∧ (∀ r ∈ rs, r.length ≤ 100000) ∧
  ∀ (f : Addr) (ys : List V) (H' : Hp), H' f = some (.lst ys) → TpAll K H' ys ((newest rs).map Ent.d) → H f = none → Same H H' → Q (.ref f) H'

section
variable {P : Program} {w : World} {K : PySem.W.Frag} {mg : Str → Option Value} {base : Heap} {a : Ad}
theorem scNewest : FnScope ["rows", "found", "longest", "place", "known", "most", "row", "epoch", "entry"] ["rows"] (defScope sNewest) := ⟨rfl, rfl, rfl, by decide +kernel, rfl, by decide +kernel, by decide +kernel⟩
theorem g_newest (T : Txt P K mg a) : ∃ fd, FnOk P w K mg base CX0 1 a.newest fd ["rows"] (spNewest K) ∧ Binds K fd ["rows"] [] := by
  obtain ⟨fd, F, b⟩ := T.newest
  refine ⟨fd, F.ok scNewest (fun vs H Q E h => ?_) (fun cdv A outer s H vs Q E hr h => ?_), b⟩
  · obtain ⟨c, xs, rs, rfl, _⟩ := h
    rfl
  · obtain ⟨c, xs, rs, rfl, hc, tx, hlen, hrow, q⟩ := h
    have hxl := tx.len
    rw [List.length_map] at hxl
    refine ⟨_, pss_cons (ps_par (i := 1) (j := 2) rfl scNewest.nd rfl rfl (by decide) rfl rfl (pa_cons (pe_lst pa_nil) (pa_cons (pe_callB (cr_max rfl) rfl T.nMax (by decide +kernel) (pa_cons
          (pe_lst (pa_cons pe_int (pa_star (pe_lc (own := [("row", 6)]) (g := gName 6) (te := tCB (rLen K) (tCons (tVar 6) tNil)) rfl scNewest.nd (pi_list (pv 0))
            (blkOk_by (own := [("row", 6)]) (N := ["rows", "found", "longest", "place", "known", "most", "row", "epoch", "entry"]) (sc := defScope sNewest) (by decide +kernel)) (fun _ _ _ _ _ => pg_name (i := 6) scNewest.nd rfl (Or.inl rfl))
            (fun _ _ _ _ _ => pts_nil) (fun _ _ _ _ _ => by exact (pe_callB call_len_seq rfl T.nLen PySem.boot_len (pa_cons (pv 6) pa_nil)))) pa_nil))) pa_nil)) pa_nil)) (by rfl))
      (pss_cons (ps_for PassesOwn.never rfl (pi_range1 rfl T.nRange (pa_cons (pv 2) pa_nil)) (pg_name (i := 3) scNewest.nd rfl (Or.inr rfl))
        (pss_cons (ps_setLc (i := 4) (te := tOp (rIxT K) (tVar 6) (tVar 3)) (own := [("row", 6)]) (g := gName 6) (tt := tTest (tOp (rI0 fun i j => .bl (decide (j < i))) (tCB (rLen K) (tCons (tVar 6) tNil)) (tVar 3))) rfl scNewest.nd rfl rfl (sw_true rfl rfl rfl rfl) (pi_list (pv 0))
            (blkOk_by (own := [("row", 6)]) (N := ["rows", "found", "longest", "place", "known", "most", "row", "epoch", "entry"]) (sc := defScope sNewest) (by decide +kernel)) (fun _ _ _ _ _ => pg_name (i := 6) scNewest.nd rfl (Or.inl rfl))
            (fun _ _ _ _ _ => pts_one (by exact (pt_cmpR op_gt (pe_callB call_len_seq rfl T.nLen PySem.boot_len (pa_cons (pv 6) pa_nil)) (pv 3) (nomark _)))) (fun _ _ _ _ _ => by exact (pe_ix ix_tup (pv 6) (pv 3) (fun _ _ => rfl))))
        (pss_cons (ps_set (i := 5) scNewest.nd rfl (Or.inr rfl) (pe_callB (cr_max rfl) rfl T.nMax (by decide +kernel) (pa_cons
            (pe_lc (own := [("epoch", 7), ("entry", 8)]) (g := gTup K 2 (gCons (gName 7) (gCons (gName 8) gNil))) rfl scNewest.nd (pi_list (pv 4))
              (blkOk_by (own := [("epoch", 7), ("entry", 8)]) (N := ["rows", "found", "longest", "place", "known", "most", "row", "epoch", "entry"]) (sc := defScope sNewest) (by decide +kernel))
              (fun _ _ _ _ _ => pg_tup rfl (pgs_cons (pg_name (i := 7) scNewest.nd rfl (Or.inl rfl)) (pgs_cons (pg_name (i := 8) scNewest.nd rfl (Or.inl rfl)) pgs_nil)))
              (fun _ _ _ _ _ => pts_nil) (fun _ _ _ _ _ => pv 7)) pa_nil)))
        (pss_one (ps_expr (pe_bm PySem.F.plainAttrs_list PySem.F.slot_list_append PySem.F.type_list_append mt_append (pv 1) (pa_cons (pe_ix ix_list
            (pe_lc (own := [("epoch", 7), ("entry", 8)]) (g := gTup K 2 (gCons (gName 7) (gCons (gName 8) gNil))) (tt := tTest (tOp rEq (tVar 7) (tVar 5))) rfl scNewest.nd (pi_list (pv 4))
              (blkOk_by (own := [("epoch", 7), ("entry", 8)]) (N := ["rows", "found", "longest", "place", "known", "most", "row", "epoch", "entry"]) (sc := defScope sNewest) (by decide +kernel))
              (fun _ _ _ _ _ => pg_tup rfl (pgs_cons (pg_name (i := 7) scNewest.nd rfl (Or.inl rfl)) (pgs_cons (pg_name (i := 8) scNewest.nd rfl (Or.inl rfl)) pgs_nil)))
              (fun _ _ _ _ _ => pts_one (by exact (pt_cmpR op_eq (pv 7) (pv 5) (nomark _)))) (fun _ _ _ _ _ => pv 8)) pe_int (fun _ _ => rfl)) pa_nil)))))))
      (pss_one (ps_ret (pv 1)))), ?_⟩
    have hz0 : ([] : List V).length ≤ sizeLine := by show 0 ≤ sizeLine; decide
    refine ⟨hz0, fun f hf => ?_⟩
    have s0 := same_new (o := .lst []) hf
    generalize hH0 : upd H f (.lst []) = H0 at s0 ⊢
    have hf0 : H0 f = some (.lst []) := by rw [← hH0]; exact upd_same
    refine ⟨_, rfl, c, rfl, ⟨_, s0.seq hc⟩, fun D hD => ?_⟩
    refine lc_list (K := K) (a := c) (xs := xs) (fun i H' => H' D = some (.lst ((rs.take i).map fun r : Row => V.int (r.length : Nat))) ∧ Same H0 H') ⟨upd_same, same_new hD⟩ (fun i H' _ h => (s0.trans h.2).seq hc) ?_ ?_
    · rintro i y H' hi ⟨hacc, s1⟩
      obtain ⟨d, hd, ty⟩ := (tx.at (Kept.of_same (s0.trans s1))).getV hi
      rw [List.getElem?_map] at hd
      obtain ⟨r, hr', rfl⟩ := Option.map_eq_some_iff.mp hd
      obtain ⟨ra, rv, rfl, h1, h2⟩ := tp_tup ty
      have hrl := h2.len
      rw [List.length_map] at hrl
      refine ⟨rfl, tYes_ ?_⟩
      refine iteT ?_
      refine ⟨_, rfl, ra, rv, rfl, .inr h1, _, hacc, ?_, ?_, fun b o h => ?_⟩
      · rw [List.length_map, List.length_take]
        exact line_of (by omega)
      · rw [upd_same, take_next hr', List.map_append, hrl]
        rfl
      · rw [upd_ne (ne_of_none h hD)]
        exact s1 b o h
    · rintro H1 ⟨hacc, s1⟩
      rw [hxl, List.take_length] at hacc
      refine ⟨D, _, rfl, .inr (SqL.of hacc), ?_⟩
      refine ⟨?_, fun e he => ?_⟩
      · show (((rs.map fun r : Row => V.int (r.length : Nat)) ++ []).length + 1 ≤ sizeLine)
        rw [List.append_nil, List.length_map, sizeLine_eq]
        omega
      have s2 := same_new (o := .lst (V.int 0 :: ((rs.map fun r : Row => V.int (r.length : Nat)) ++ []))) he
      refine ⟨e, (0 : Int) :: rs.map (fun r => ((r.length : Nat) : Int)), rfl, SqL.of ?_, Nat.succ_pos _, fun m m1 m2 => ?_⟩
      · rw [List.map_cons, List.map_map]
        have e1 : V.int 0 :: ((rs.map fun r : Row => V.int (r.length : Nat)) ++ []) = V.int 0 :: rs.map (V.int ∘ fun r : Row => ((r.length : Nat) : Int)) := by
          rw [List.append_nil]
          rfl
        rw [← e1]
        exact upd_same
      obtain rfl := longest_max m1 m2
      have s12 := s1.trans s2
      generalize hH2 : upd H1 e (HO.lst (V.int 0 :: ((rs.map fun r : Row => V.int (r.length : Nat)) ++ []))) = H2 at s12 ⊢
      have hll : longest rs ≤ 100000 := longest_le hrow
      refine ⟨_, _, rfl, ?_⟩
      refine ⟨_, rfl, _, rfl, (by omega), (by omega), ?_⟩
      rw [Int.toNat_natCast]
      have hf2 := s12 _ _ hf0
      have s02 := s0.trans s12
      refine for_range (fun i σ H' => ∃ (v3 v4 v5 : Option V) (ys : List V), σ = [some (.ref c), some (.ref f), some (.int (longest rs : Nat)), v3, v4, v5, none, none, none] ∧ H' f = some (.lst ys) ∧
        TpAll K H' ys (((List.range i).map fun p => pick (rs.filterMap fun r => r[p]?)).map Ent.d) ∧ Same H H') ⟨none, none, none, [], rfl, hf2, .nil, s02⟩ ?_ ?_
      · rintro i σ H3 hi ⟨v3, v4, v5, ys, rfl, hf3, ty, s3⟩
        have hyl := ty.len
        rw [List.length_map, List.length_map, List.length_range] at hyl
        have tx3 := tx.at (Kept.of_same s3)
        -- known = [row[place] for row in rows if len(row) > place]
        refine ⟨_, rfl, c, rfl, ⟨_, s3.seq hc⟩, fun D1 hD1 => ?_⟩
        refine lc_list (K := K) (a := c) (xs := xs) (fun j H' => ∃ acc, H' D1 = some (.lst acc) ∧ TpAll K H' acc (((rs.take j).filterMap fun r => r[i]?).map pairD) ∧ Same H3 H') ⟨[], upd_same, .nil, same_new hD1⟩ (fun j H' _ ⟨_, _, _, s4⟩ => (s3.trans s4).seq hc) ?_ ?_
        · rintro j y H' hj ⟨acc, hacc, tacc, s4⟩
          obtain ⟨d, hd, ty'⟩ := (tx3.at (Kept.of_same s4)).getV hj
          rw [List.getElem?_map] at hd
          obtain ⟨r, hr', rfl⟩ := Option.map_eq_some_iff.mp hd
          obtain ⟨ra, rv, rfl, h1, h2⟩ := tp_tup ty'
          have hrl := h2.len
          rw [List.length_map] at hrl
          have hal := tacc.len
          rw [List.length_map] at hal
          have hfl : ((rs.take j).filterMap fun r : Row => r[i]?).length ≤ (rs.take j).length := List.length_filterMap_le _ _
          rw [List.length_take] at hfl
          refine ⟨rfl, _, rfl, ra, rv, rfl, .inr h1, _, rfl, _, _, rfl, rfl, _, rfl, ?_⟩
          rw [take_next hr', List.filterMap_append]
          by_cases lt : i < r.length
          · rw [decide_eq_true (show ((0 : Int) + (i : Nat)) < ((rv.length : Nat) : Int) by omega)]
            obtain ⟨q', hq⟩ : ∃ q', r[i]? = some q' := ⟨_, List.getElem?_eq_getElem lt⟩
            obtain ⟨u, hu, tu⟩ := h2.get (i := i) (d := pairD q') (by rw [List.getElem?_map, hq]; rfl)
            refine iteT ⟨_, rfl, _, rfl, ra, rv, _, u, rfl, rfl, h1, at_of (j := i) (by omega) hu, acc, hacc, line_of (by omega), acc ++ [u], upd_same, ?_, fun b o h => ?_⟩
            · have ku := kept_upd (u := .lst (acc ++ [u])) hacc (fun z => z)
              have e1 : [r].filterMap (fun r : Row => r[i]?) = [q'] := by simp [hq]
              rw [e1, List.map_append]
              exact (tacc.at ku).app (.one (tu.at ku))
            · rw [upd_ne (ne_of_none h hD1)]
              exact s4 b o h
          · rw [decide_eq_false (show ¬ ((0 : Int) + (i : Nat)) < ((rv.length : Nat) : Int) by omega)]
            have e1 : [r].filterMap (fun r : Row => r[i]?) = [] := by
              have : r[i]? = none := List.getElem?_eq_none (by omega)
              simp [this]
            rw [e1, List.append_nil]
            exact iteF ⟨acc, hacc, tacc, s4⟩
        · rintro H4 ⟨kn, hkn, tkn, s4⟩
          rw [hxl, List.take_length] at tkn
          generalize hL : (rs.filterMap fun r : Row => r[i]?) = L at tkn
          have hne : L ≠ [] := fun z => by
            have hlt : i < longest rs := hi
            rcases maxN_mem (rs.map List.length) 0 with h | h
            · unfold longest maxN at hlt
              omega
            · obtain ⟨r, hr, e⟩ := List.mem_map.mp h
              have hil : i < r.length := by
                unfold longest maxN at hlt
                omega
              have : r[i] ∈ L := by
                rw [← hL]
                exact List.mem_filterMap.mpr ⟨r, hr, List.getElem?_eq_getElem hil⟩
              rw [z] at this
              simp at this
          have hLl : L.length ≤ 10 := by
            rw [← hL]
            have := List.length_filterMap_le (fun r : Row => r[i]?) rs
            omega
          have hknl := tkn.len
          rw [List.length_map] at hknl
          -- most = max([epoch for epoch, entry in known])
          refine ⟨_, rfl, D1, rfl, ⟨_, SqL.of hkn⟩, fun D2 hD2 => ?_⟩
          refine lc_list (K := K) (a := D1) (xs := kn) (fun j H' => H' D2 = some (.lst ((L.take j).map fun q => V.int q.1)) ∧ Same H4 H') ⟨upd_same, same_new hD2⟩ (fun j H' _ h => h.2.seq (SqL.of hkn)) ?_ ?_
          · rintro j y H' hj ⟨hacc, s5⟩
            obtain ⟨d, hd, ty'⟩ := (tkn.at (Kept.of_same s5)).getV hj
            rw [List.getElem?_map] at hd
            obtain ⟨q', hq', rfl⟩ := Option.map_eq_some_iff.mp hd
            obtain ⟨pa, u, rfl, hs, hu⟩ := tp_pair ty'
            refine ⟨pa, _, rfl, hs, rfl, _, _, rfl, _, _, rfl, rfl, rfl, tYes_ ?_⟩
            refine iteT ?_
            refine ⟨_, rfl, _, hacc, ?_, ?_, fun b o h => ?_⟩
            · rw [List.length_map, List.length_take]
              exact line_of (by omega)
            · rw [upd_same, take_next hq', List.map_append]
              rfl
            · rw [upd_ne (ne_of_none h hD2)]
              exact s5 b o h
          · rintro H5 ⟨hacc, s5⟩
            rw [hknl, List.take_length] at hacc
            refine ⟨D2, L.map (·.1), rfl, SqL.of ?_, ?_, fun m m1 m2 => ?_⟩
            · rw [List.map_map]
              exact hacc
            · rw [List.length_map]
              exact List.length_pos_iff.mpr hne
            obtain rfl := maxE_is m1 m2
            -- found.append([entry for epoch, entry in known if epoch == most][0])
            have s45 := s4.trans s5
            refine ⟨_, rfl, .inl ⟨rfl, _, SqL.of (s45 _ _ hf3)⟩, ?_⟩
            refine ⟨_, rfl, D1, rfl, ⟨_, s5.seq (SqL.of hkn)⟩, fun D3 hD3 => ?_⟩
            refine lc_list (K := K) (a := D1) (xs := kn) (fun j H' => ∃ acc, H' D3 = some (.lst acc) ∧ TpAll K H' acc (((L.take j).filter fun q => decide (q.1 = maxE L)).map fun q => q.2.d) ∧ Same H5 H') ⟨[], upd_same, .nil, same_new hD3⟩ (fun j H' _ ⟨_, _, _, s6⟩ => (s5.trans s6).seq (SqL.of hkn)) ?_ ?_
            · rintro j y H' hj ⟨acc, hacc', tacc, s6⟩
              obtain ⟨d, hd, ty'⟩ := (tkn.at (Kept.of_same (s5.trans s6))).getV hj
              rw [List.getElem?_map] at hd
              obtain ⟨q', hq', rfl⟩ := Option.map_eq_some_iff.mp hd
              obtain ⟨pa, u, rfl, hs, hu⟩ := tp_pair ty'
              have hal := tacc.len
              rw [List.length_map] at hal
              have hfl := List.length_filter_le (fun q : Int × Ent => decide (q.1 = maxE L)) (L.take j)
              rw [List.length_take] at hfl
              refine ⟨pa, _, rfl, hs, rfl, _, _, rfl, _, _, rfl, rfl, rfl, ?_⟩
              refine ⟨_, rfl, _, rfl, rfl, _, rfl, ?_⟩
              rw [take_next hq', List.filter_append]
              by_cases e : q'.1 = maxE L
              · rw [decide_eq_true (congrArg V.int e)]
                refine iteT ⟨_, rfl, acc, hacc', line_of (by omega), acc ++ [u], upd_same, ?_, fun b o h => ?_⟩
                · have ku := kept_upd (u := .lst (acc ++ [u])) hacc' (fun z => z)
                  have e1 : [q'].filter (fun q : Int × Ent => decide (q.1 = maxE L)) = [q'] := by simp [e]
                  rw [e1, List.map_append]
                  exact (tacc.at ku).app (.one (hu.at ku))
                · rw [upd_ne (ne_of_none h hD3)]
                  exact s6 b o h
              · rw [decide_eq_false (fun z => e (V.int.inj z))]
                have e1 : [q'].filter (fun q : Int × Ent => decide (q.1 = maxE L)) = [] := by simp [e]
                rw [e1, List.append_nil]
                exact iteF ⟨acc, hacc', tacc, s6⟩
            · rintro H6 ⟨acc, hacc', tacc, s6⟩
              rw [hknl, List.take_length] at tacc
              obtain ⟨qm, hqm, em⟩ := maxE_mem L hne
              have hin : qm ∈ L.filter fun q => decide (q.1 = maxE L) := List.mem_filter.mpr ⟨hqm, decide_eq_true em⟩
              cases hF : L.filter fun q => decide (q.1 = maxE L) with
              | nil =>
                rw [hF] at hin
                simp at hin
              | cons q0 qs =>
                have epick : pick L = q0.2 := by
                  unfold pick
                  rw [hF]
                  rfl
                rw [hF] at tacc
                obtain ⟨u, ur, rfl, tu, _⟩ := tp_cons tacc
                refine ⟨D3, _, 0, u, rfl, rfl, SqL.of hacc', at_of (j := 0) rfl rfl, ?_⟩
                have s46 := s45.trans s6
                have hf6 := s46 _ _ hf3
                refine ⟨f, ys, u, rfl, rfl, hf6, line_of (by omega), ?_⟩
                have ku := kept_upd (u := .lst (ys ++ [u])) hf6 (fun z => z)
                refine ⟨_, _, _, ys ++ [u], rfl, upd_same, ?_, fun b o h => ?_⟩
                · rw [List.range_succ, List.map_append, List.map_append]
                  refine ((ty.at (Kept.of_same s46)).at ku).app (.one ?_)
                  show Tp K _ u (pick (rs.filterMap fun r => r[i]?)).d
                  rw [hL, epick]
                  exact tu.at ku
                · rw [upd_ne (ne_of_none h hf)]
                  exact s46 b o (s3 b o h)
      · rintro σ H3 ⟨v3, v4, v5, ys, rfl, hf3, ty, s3⟩
        exact ⟨_, rfl, q f ys H3 hf3 ty hf s3⟩
end
end K41
set_option Elab.async false
set_option linter.all false
set_option maxRecDepth 100000
set_option maxHeartbeats 4000000
/-! L41H: a sequencer in the heap; its defs but hear. -/
namespace K41
open PySem PySem.Spec PyProof.Rows L2 StX

def Stand.str : Stand → Str
  | .asking => "asking"
  | .leading => "leading"
  | .stopped => "stopped"
theorem stand_eq (x y : Stand) : decide (V.str x.str = V.str y.str) = decide (x = y) := by
  refine decide_eq_decide.mpr ⟨fun h => ?_, fun h => by rw [h]⟩
  have h := V.str.inj h
  revert h
  cases x <;> cases y <;> first | (intro _; rfl) | (intro h; exact absurd h (by decide +kernel))

/-! ### its rows, by keepers -/
abbrev RowsKV (K : PySem.W.Frag) (H : Hp) (kvs : List (Key × V)) (rows : List (Nat × Row)) : Prop := Paired (fun (p : Key × V) (q : Nat × Row) => p.1 = .inl ((q.1 : Nat) : Int) ∧ Tp K H p.2 (rowD q.2)) kvs rows
section
variable {K : PySem.W.Frag} {H H' : Hp}
theorem RowsKV.at {kvs : List (Key × V)} {rows : List (Nat × Row)} (h : RowsKV K H kvs rows) (k : Kept H H') : RowsKV K H' kvs rows := Paired.mapP h fun _ _ z => ⟨z.1, z.2.at k⟩
theorem key_eq {n m : Nat} : ((Sum.inl ((n : Nat) : Int) : Key) = .inl ((m : Nat) : Int)) ↔ n = m := ⟨fun h => by injection h with h; omega, fun h => by rw [h]⟩
theorem RowsKV.get {kvs : List (Key × V)} {rows : List (Nat × Row)} (h : RowsKV K H kvs rows) (n : Nat) :
    (getR rows n = none ∧ valV kvs (.inl ((n : Nat) : Int)) = none) ∨ ∃ r v, getR rows n = some r ∧ valV kvs (.inl ((n : Nat) : Int)) = some v ∧ Tp K H v (rowD r) := by
  unfold RowsKV at h
  induction h with
  | nil => exact .inl ⟨rfl, rfl⟩
  | @cons p q l1 l2 hpq t ih =>
    obtain ⟨k, v⟩ := p
    obtain ⟨j, r⟩ := q
    obtain ⟨e, tv⟩ := hpq
    have e' : k = .inl ((j : Nat) : Int) := e
    subst e'
    by_cases c : j = n
    · subst c
      exact .inr ⟨r, v, by unfold getR; rw [List.find?_cons]; simp, valV_pos (p := (Sum.inl ((j : Nat) : Int), v)) rfl, tv⟩
    · have e1 : getR ((j, r) :: l2) n = getR l2 n := by unfold getR; rw [List.find?_cons]; simp [c]
      have e2 : valV ((Sum.inl ((j : Nat) : Int), v) :: l1) (.inl ((n : Nat) : Int)) = valV l1 (.inl ((n : Nat) : Int)) := valV_neg (p := (Sum.inl ((j : Nat) : Int), v)) (fun z => c (key_eq.mp z))
      rw [e1, e2]
      exact ih
theorem RowsKV.any {kvs : List (Key × V)} {rows : List (Nat × Row)} (h : RowsKV K H kvs rows) (n : Nat) : (kvs.any fun kv => decide (kv.1 = (.inl ((n : Nat) : Int) : Key))) = rows.any fun q => decide (q.1 = n) := by
  unfold RowsKV at h
  induction h with
  | nil => rfl
  | @cons p q l1 l2 hpq t ih =>
    rw [List.any_cons, List.any_cons, ih, hpq.1, decide_eq_decide.mpr key_eq]
theorem RowsKV.put {kvs : List (Key × V)} {rows : List (Nat × Row)} (h : RowsKV K H kvs rows) (n : Nat) {v : V} {r : Row} (tv : Tp K H v (rowD r)) : RowsKV K H (putK kvs (.inl ((n : Nat) : Int)) v) (putR rows n r) := by
  have ha := h.any n
  unfold putK putR
  rw [ha]
  by_cases c : (rows.any fun q => decide (q.1 = n)) = true
  · rw [if_pos c, if_pos c]
    clear c ha
    unfold RowsKV at h ⊢
    induction h with
    | nil => exact .nil
    | @cons p q l1 l2 hpq t ih =>
      refine .cons ?_ ih
      dsimp only
      by_cases e : q.1 = n
      · rw [if_pos e, if_pos (by rw [hpq.1, e])]
        exact ⟨hpq.1, tv⟩
      · rw [if_neg e, if_neg (by rw [hpq.1]; exact fun z => e (key_eq.mp z))]
        exact hpq
  · rw [if_neg c, if_neg c]
    exact Paired.snoc h ⟨rfl, tv⟩
theorem RowsKV.keys {kvs : List (Key × V)} {rows : List (Nat × Row)} (h : RowsKV K H kvs rows) : (kvs.map fun kv => kV kv.1) = (rows.map fun q => ((q.1 : Nat) : Int)).map V.int := by
  unfold RowsKV at h
  induction h with
  | nil => rfl
  | @cons p q l1 l2 hpq t ih =>
    rw [List.map_cons, ih, hpq.1]
    rfl
end
/-- the keys in order -/
def keysOf (m : Nat) (rows : List (Nat × Row)) : List Nat := (List.range m).filter fun n => (getR rows n).isSome
theorem keys_sorted {m : Nat} {rows : List (Nat × Row)} (nd : (rows.map (·.1)).Nodup) (lt : ∀ q ∈ rows, q.1 < m) {ns : List Int} (hp : ns.Perm (rows.map fun q => ((q.1 : Nat) : Int))) (hs : ns.Pairwise (· ≤ ·)) : ns = (keysOf m rows).map fun n => ((n : Nat) : Int) := by
  have p1 : (rows.map (·.1)).Perm (keysOf m rows) := by
    refine (List.perm_ext_iff_of_nodup nd (List.filter_sublist.nodup List.nodup_range)).mpr fun n => ?_
    rw [List.mem_filter, List.mem_range]
    constructor
    · intro h
      obtain ⟨q, hq, rfl⟩ := List.mem_map.mp h
      refine ⟨lt q hq, ?_⟩
      rw [getR_of_mem nd (show (q.1, q.2) ∈ rows from hq)]
      rfl
    · rintro ⟨_, h⟩
      cases e : getR rows n with
      | none => rw [e] at h; cases h
      | some r => exact List.mem_map.mpr ⟨_, getR_mem e, rfl⟩
  have p2 : ns.Perm ((keysOf m rows).map fun n => ((n : Nat) : Int)) := by
    refine hp.trans ?_
    have := p1.map (fun n : Nat => ((n : Nat) : Int))
    rw [List.map_map] at this
    exact this
  refine List.Perm.eq_of_pairwise (fun _ _ _ _ a b => Int.le_antisymm a b) hs ?_ p2
  rw [List.pairwise_map]
  have : (keysOf m rows).Pairwise (· < ·) := List.Pairwise.filter _ List.pairwise_lt_range
  exact this.imp fun h => by omega
theorem sortedRows_keys (m : Nat) (rows : List (Nat × Row)) : sortedRows m rows = (keysOf m rows).filterMap (getR rows) := by
  unfold sortedRows keysOf
  induction List.range m with
  | nil => rfl
  | cons n l ih =>
    rw [List.filterMap_cons, List.filter_cons]
    cases e : getR rows n with
    | none => simpa [e] using ih
    | some r => simpa [e] using ih

/-! ### what each keeper took, as a dict -/
def tkv (l : List Nat) : List (Key × V) := (List.range l.length).map fun i => ((Sum.inl ((i : Nat) : Int) : Key), V.int ((l.getD i 0 : Nat) : Int))
theorem tkv_len (l : List Nat) : (tkv l).length = l.length := by unfold tkv; rw [List.length_map, List.length_range]
theorem valV_app {a b : List (Key × V)} {k : Key} : valV (a ++ b) k = (valV a k).or (valV b k) := by
  unfold valV
  rw [List.find?_append]
  cases (a.find? fun kv => decide (kv.1 = k)) <;> simp
theorem valV_rng (f : Nat → V) (n : Nat) : ∀ m, valV ((List.range m).map fun i => ((Sum.inl ((i : Nat) : Int) : Key), f i)) (.inl ((n : Nat) : Int)) = if n < m then some (f n) else none
  | 0 => rfl
  | m + 1 => by
    rw [List.range_succ, List.map_append, valV_app, valV_rng f n m]
    by_cases c : n < m
    · rw [if_pos c, if_pos (by omega)]
      rfl
    · rw [if_neg c]
      by_cases e : m = n
      · subst e
        rw [if_pos (by omega)]
        show (none : Option V).or (valV [(Sum.inl ((m : Nat) : Int), f m)] (.inl ((m : Nat) : Int))) = _
        rw [valV_pos (p := ((Sum.inl ((m : Nat) : Int) : Key), f m)) rfl]
        rfl
      · rw [if_neg (by omega)]
        show (none : Option V).or (valV [(Sum.inl ((m : Nat) : Int), f m)] (.inl ((n : Nat) : Int))) = _
        rw [valV_neg (p := ((Sum.inl ((m : Nat) : Int) : Key), f m)) (fun z => e (key_eq.mp z))]
        rfl
theorem tkv_get (l : List Nat) (n : Nat) : valV (tkv l) (.inl ((n : Nat) : Int)) = (l[n]?).map fun t => V.int ((t : Nat) : Int) := by
  unfold tkv
  rw [valV_rng]
  by_cases c : n < l.length
  · rw [if_pos c, List.getElem?_eq_getElem c, List.getD_eq_getElem?_getD, List.getElem?_eq_getElem c]
    rfl
  · rw [if_neg c, List.getElem?_eq_none (by omega)]
    rfl
theorem tkv_set (l : List Nat) {n : Nat} (t : Nat) (h : n < l.length) : putK (tkv l) (.inl ((n : Nat) : Int)) (V.int ((t : Nat) : Int)) = tkv (l.set n t) := by
  have ha : ((tkv l).any fun kv => decide (kv.1 = (.inl ((n : Nat) : Int) : Key))) = true := by
    rw [valV_any, tkv_get, List.getElem?_eq_getElem h]
    rfl
  unfold putK
  rw [if_pos ha]
  unfold tkv
  rw [List.map_map, List.length_set]
  refine List.map_congr_left fun i hi => ?_
  have hi := List.mem_range.mp hi
  by_cases e : i = n
  · subst e
    show (if (Sum.inl ((i : Nat) : Int) : Key) = .inl ((i : Nat) : Int) then ((Sum.inl ((i : Nat) : Int) : Key), V.int ((t : Nat) : Int)) else _) = _
    rw [if_pos rfl]
    simp [List.getD_eq_getElem?_getD, h]
  · show (if (Sum.inl ((i : Nat) : Int) : Key) = .inl ((n : Nat) : Int) then ((Sum.inl ((i : Nat) : Int) : Key), V.int ((t : Nat) : Int)) else _) = _
    rw [if_neg (fun z => e (key_eq.mp z))]
    have : n ≠ i := fun z => e z.symm
    simp [List.getD_eq_getElem?_getD, List.getElem?_set_ne this]
theorem tkv_new (i : Nat) : putK (tkv (List.replicate i 0)) (.inl ((i : Nat) : Int)) (V.int 0) = tkv (List.replicate (i + 1) 0) := by
  have hn : valV (tkv (List.replicate i 0)) (.inl ((i : Nat) : Int)) = none := by
    rw [tkv_get, List.getElem?_eq_none (by rw [List.length_replicate]; omega)]
    rfl
  rw [putK_new _ hn]
  unfold tkv
  rw [List.length_replicate, List.length_replicate, List.range_succ, List.map_append]
  congr 1
  · refine List.map_congr_left fun j hj => ?_
    have hj := List.mem_range.mp hj
    have h1 : j < i + 1 := by omega
    simp [List.getD_eq_getElem?_getD, List.getElem?_replicate, hj, h1]
  · simp [List.getD_eq_getElem?_getD, List.getElem?_replicate]
theorem tkv_vals (l : List Nat) : (tkv l).map (·.2) = (l.map fun t => ((t : Nat) : Int)).map V.int := by
  unfold tkv
  rw [List.map_map, List.map_map]
  refine List.ext_getElem? fun i => ?_
  rw [List.getElem?_map, List.getElem?_map]
  by_cases c : i < l.length
  · rw [List.getElem?_range c, List.getElem?_eq_getElem c]
    simp [List.getD_eq_getElem?_getD, c]
  · rw [List.getElem?_eq_none (by rw [List.length_range]; omega), List.getElem?_eq_none (by omega)]
    rfl

/-! ### a sequencer -/
/-- where a sequencer's parts stand -/
structure Lo where
  (p rd rl td : Addr)
def sqF (m : Nat) (s : Sq) (q : Lo) : List (Str × V) := [(("epoch" : Str), .int s.ep), ("many", .int (m : Nat)), ("stand", .str s.stand.str), ("rows", .ref q.rd), ("row", .ref q.rl), ("taken", .ref q.td)]
def SqAt (K : PySem.W.Frag) (C : Addr) (m : Nat) (H : Hp) (q : Lo) (s : Sq) : Prop :=
  ∃ dx kvs xs, H q.p = some (.ins C dx (sqF m s q)) ∧ H q.rd = some (.dK kvs) ∧ RowsKV K H kvs s.rows ∧ H q.rl = some (.lst xs) ∧ TpAll K H xs (s.row.map Ent.d) ∧ H q.td = some (.dK (tkv s.taken))
theorem SqAt.same {K : PySem.W.Frag} {C : Addr} {m : Nat} {H H' : Hp} {q : Lo} {s : Sq} (h : SqAt K C m H q s) (k : Same H H') : SqAt K C m H' q s := by
  obtain ⟨dx, kvs, xs, h1, h2, h3, h4, h5, h6⟩ := h
  have kk := Kept.of_same k
  exact ⟨dx, kvs, xs, k _ _ h1, k _ _ h2, h3.at kk, k _ _ h4, h5.at kk, k _ _ h6⟩
/-- what stays when all but some places stay -/
theorem SqAt.off {K : PySem.W.Frag} {C : Addr} {m : Nat} {H H' : Hp} {q : Lo} {s : Sq} {p : Addr → Prop} (h : SqAt K C m H q s) (k : ∀ b o, H b = some o → ¬ p b → H' b = some o) (kk : Kept H H') (n1 : ¬ p q.p) (n2 : ¬ p q.rd) (n3 : ¬ p q.rl) (n4 : ¬ p q.td) : SqAt K C m H' q s := by
  obtain ⟨dx, kvs, xs, h1, h2, h3, h4, h5, h6⟩ := h
  exact ⟨dx, kvs, xs, k _ _ h1 n1, k _ _ h2 n2, h3.at kk, k _ _ h4 n3, h5.at kk, k _ _ h6 n4⟩

def spSInit (K : PySem.W.Frag) (C : Addr) : Sp := fun vs H Q _ => ∃ (p dx : Addr) (e : Int) (m : Nat), vs = [.ref p, .int e, .int (m : Nat)] ∧ H p = some (.ins C dx []) ∧ m ≤ 10 ∧
  ∀ (q : Lo) (H' : Hp), q.p = p → SqAt K C m H' q (fresh m e) → H q.rd = none → H q.rl = none → H q.td = none → q.rd ≠ q.td → But p H H' → Q .non H'
def spSSend (K : PySem.W.Frag) (C : Addr) : Sp := fun vs H Q _ => ∃ (m : Nat) (q : Lo) (s : Sq), vs = [.ref q.p] ∧ SqAt K C m H q s ∧ m ≤ 10 ∧ s.taken.length = m ∧
  ∀ (t : V) (H' : Hp), Tp K H' t (.tuple ((s.toSend m).map Let.d)) → Same H H' → Q t H'
def spAdd (K : PySem.W.Frag) (a : Ad) : Sp := fun vs H Q E => ∃ (m : Nat) (q : Lo) (s : Sq) (v : V), vs = [.ref q.p, v] ∧ SqAt K a.cS m H q s ∧ s.stand ≠ .leading ∧
  ∀ d, H d = none → E (.ref a.cB) (some d) (upd H d (.xd [(("name" : Str), v)]))
def spSSettled (K : PySem.W.Frag) (C : Addr) : Sp := fun vs H Q _ => ∃ (m : Nat) (q : Lo) (s : Sq), vs = [.ref q.p] ∧ SqAt K C m H q s ∧ m ≤ 10 ∧ 0 < m ∧ s.taken.length = m ∧
  ∀ (t : V) (cs : List Int) (c : Nat) (H' : Hp), cs.Perm (s.taken.map fun t => ((t : Nat) : Int)) → cs.Pairwise (· ≤ ·) → cs[m - most m]? = some ((c : Nat) : Int) → Tp K H' t (.tuple ((s.row.take c).map Ent.d)) → Same H H' → Q t H'
def spHear (K : PySem.W.Frag) (C : Addr) : Sp := fun vs H Q _ => ∃ (m : Nat) (q : Lo) (s : Sq) (v : V) (y : Let), vs = [.ref q.p, v] ∧ SqAt K C m H q s ∧ Tp K H v y.d ∧ y.num < m ∧ q.rd ≠ q.td ∧ m ≤ 10 ∧ s.taken.length = m ∧
  (s.rows.map (·.1)).Nodup ∧ (∀ z ∈ s.rows, z.1 < m) ∧ SB 100000 s ∧ y.small 100000 ∧
  ∀ (rl' : Addr) (H' : Hp), SqAt K C m H' { q with rl := rl' } (s.hear m y) → (rl' = q.rl ∨ H rl' = none) → (∀ b o, H b = some o → ¬ (b = q.p ∨ b = q.rd ∨ b = q.td) → H' b = some o) → Q .non H'
section
variable {P : Program} {w : World} {K : PySem.W.Frag} {mg : Str → Option Value} {base : Heap} {a : Ad}
theorem pe_gs {X : Cx} {x s : Str} {pos : Pos} (hg : Gl X x) (h : HasStr X.mg x s) (hd : (x == ("__debug__" : Str)) = false := by decide) : PE X (.Name x pos) (tC (.str s)) := by
  obtain ⟨t, e⟩ := h
  exact pe_glob hg e ⟨t, rfl⟩ hd
theorem scSInit : FnScope ["self", "epoch", "many", "number"] ["self", "epoch", "many"] (defScope (sSeq 0)) := ⟨rfl, rfl, rfl, by decide +kernel, rfl, by decide +kernel, by decide +kernel⟩
theorem g_sinit (T : Txt P K mg a) : ∃ fd, FnOk P w K mg base CX0 1 a.sInit fd ["self", "epoch", "many"] (spSInit K a.cS) ∧ Binds K fd ["self", "epoch", "many"] [] := by
  obtain ⟨fd, F, b⟩ := T.sInit
  refine ⟨fd, F.ok scSInit (fun vs H Q E h => ?_) (fun cdv A outer s H vs Q E hr h => ?_), b⟩
  · obtain ⟨p, dx, e, m, rfl, _⟩ := h
    rfl
  · obtain ⟨p, dx, e, m, rfl, hp, hm, k⟩ := h
    refine ⟨_, pss_cons (ps_fld (pv 0) (pv 1) rfl) (pss_cons (ps_fld (pv 0) (pv 2) rfl) (pss_cons (ps_fld (pv 0) (pe_gs rfl T.gAsk) rfl) (pss_cons (ps_fld (pv 0) pe_dnewK rfl) (pss_cons (ps_fld (pv 0) (pe_lst pa_nil) rfl)
      (pss_one (ps_fld (pv 0) (pe_dc (own := [("number", 3)]) (g := gName 3) (tk := tVar 3) (tv := tC (.int 0)) rfl scSInit.nd (pi_range1 rfl T.nRange (pa_cons (pv 2) pa_nil))
        (blkOk_by (own := [("number", 3)]) (N := ["self", "epoch", "many", "number"]) (sc := defScope (sSeq 0)) (by decide +kernel)) (fun _ _ _ _ _ => pg_name (i := 3) scSInit.nd rfl (Or.inl rfl)) (fun _ _ _ _ _ => pts_nil) (fun _ _ _ _ _ => pv 3) (fun _ _ _ _ _ => pe_int)) rfl)))))), ?_⟩
    have hz0 : ([] : List V).length ≤ sizeLine := by show 0 ≤ sizeLine; decide
    refine ⟨_, rfl, _, rfl, p, _, dx, _, rfl, hp, T.clS, T.nSe, (by show 0 < 1000; decide), ?_⟩
    refine ⟨_, rfl, _, rfl, p, _, dx, _, rfl, upd_same, T.clS, T.nSm, (by show 1 < 1000; decide), ?_⟩
    refine ⟨_, rfl, p, _, dx, _, rfl, upd_same, T.clS, T.nSs, (by show 2 < 1000; decide), ?_⟩
    generalize hH3 : upd (upd (upd H p _) p _) p _ = H3
    have b3 : But p H H3 := by
      rw [← hH3]
      exact (But.upd.trans But.upd).trans But.upd
    have hp3 : H3 p = some (.ins a.cS dx [(("epoch" : Str), .int e), ("many", .int (m : Nat)), ("stand", .str "asking")]) := by
      rw [← hH3]
      exact upd_same
    clear hH3
    have fr : ∀ {c : Addr} {H' : Hp}, But p H H' → H' c = none → c ≠ p → H c = none := fun {c H'} b h n => by
      cases e : H c with
      | none => rfl
      | some o => rw [b c o e n] at h; cases h
    refine fun rd hrd => ?_
    have nrd : p ≠ rd := ne_of_none hp3 hrd
    have s4 := same_new (o := .dK []) hrd
    refine ⟨_, rfl, p, _, dx, _, rfl, s4 _ _ hp3, T.clS, T.nSr, (by show 3 < 1000; decide), ?_⟩
    generalize hH5 : upd (upd H3 rd (.dK [])) p _ = H5
    have b5 : But p H H5 := by
      rw [← hH5]
      exact b3.trans ((But.of_same s4).trans But.upd)
    have hp5 : H5 p = some (.ins a.cS dx [(("epoch" : Str), .int e), ("many", .int (m : Nat)), ("stand", .str "asking"), ("rows", .ref rd)]) := by
      rw [← hH5]
      exact upd_same
    have hr5 : H5 rd = some (.dK []) := by
      rw [← hH5, upd_ne nrd.symm]
      exact upd_same
    clear hH5
    refine ⟨hz0, fun rl hrl => ?_⟩
    have nrl : p ≠ rl := ne_of_none hp5 hrl
    have nrr : rd ≠ rl := ne_of_none hr5 hrl
    have s6 := same_new (o := .lst []) hrl
    refine ⟨_, rfl, p, _, dx, _, rfl, s6 _ _ hp5, T.clS, T.nSw, (by show 4 < 1000; decide), ?_⟩
    generalize hH7 : upd (upd H5 rl (.lst [])) p _ = H7
    have b7 : But p H H7 := by
      rw [← hH7]
      exact b5.trans ((But.of_same s6).trans But.upd)
    have hp7 : H7 p = some (.ins a.cS dx [(("epoch" : Str), .int e), ("many", .int (m : Nat)), ("stand", .str "asking"), ("rows", .ref rd), ("row", .ref rl)]) := by
      rw [← hH7]
      exact upd_same
    have hr7 : H7 rd = some (.dK []) := by
      rw [← hH7, upd_ne nrd.symm, upd_ne nrr]
      exact hr5
    have hl7 : H7 rl = some (.lst []) := by
      rw [← hH7, upd_ne nrl.symm]
      exact upd_same
    clear hH7
    refine ⟨_, rfl, _, rfl, (by omega), (by omega), fun D hD => ?_⟩
    rw [Int.toNat_natCast]
    refine dc_range (fun i H' => H' D = some (.dK (tkv (List.replicate i 0))) ∧ Same H7 H') ⟨upd_same, same_new hD⟩ ?_ ?_
    · rintro i H' hi ⟨hd, s8⟩
      refine ⟨rfl, tYes_ ?_⟩
      refine iteT ?_
      refine ⟨_, rfl, _, .inl ((i : Nat) : Int), ?_, hd, ?_, ?_, fun b o h => ?_⟩
      · show V.int (0 + (i : Nat)) = V.int (i : Nat)
        rw [Int.zero_add]
      · rw [tkv_len, List.length_replicate]
        exact line_of (by omega)
      · rw [tkv_new]
        exact upd_same
      · rw [upd_ne (ne_of_none h hD)]
        exact s8 b o h
    · rintro H8 ⟨hd, s8⟩
      refine ⟨_, rfl, p, _, dx, _, rfl, s8 _ _ hp7, T.clS, T.nSt, (by show 5 < 1000; decide), ?_⟩
      have npD : p ≠ D := ne_of_none hp7 hD
      have nrD : rd ≠ D := ne_of_none hr7 hD
      refine k ⟨p, rd, rl, D⟩ _ rfl ⟨dx, [], [], upd_same, ?_, .nil, ?_, .nil, ?_⟩ (fr b3 hrd nrd.symm) (fr b5 hrl nrl.symm) (fr b7 hD npD.symm) nrD (b7.trans ((But.of_same s8).trans But.upd))
      · show upd _ p _ rd = _
        rw [upd_ne nrd.symm]
        exact s8 _ _ hr7
      · show upd _ p _ rl = _
        rw [upd_ne nrl.symm]
        exact s8 _ _ hl7
      · show upd _ p _ D = _
        rw [upd_ne npD.symm]
        exact hd
theorem scSSend : FnScope ["self", "found", "number", "place"] ["self"] (defScope (sSeq 1)) := ⟨rfl, rfl, rfl, by decide +kernel, rfl, by decide +kernel, by decide +kernel⟩
theorem g_ssend (T : Txt P K mg a) : ∃ fd, FnOk P w K mg base CX0 1 a.sSend fd ["self"] (spSSend K a.cS) ∧ Binds K fd ["self"] [] := by
  obtain ⟨fd, F, b⟩ := T.sSend
  refine ⟨fd, F.ok scSSend (fun vs H Q E h => ?_) (fun cdv A outer s H vs Q E hr h => ?_), b⟩
  · obtain ⟨m, q, sq, rfl, _⟩ := h
    rfl
  · obtain ⟨m, q, sq, rfl, SA, hm, htl, k⟩ := h
    have hu : (A.deeper (envOfC "Sequencer.to_send" (defScope (sSeq 1)) s.heap.objs.size a.sSend cdv)).units + 1 < cLine := by have := hr.un; omega
    refine ⟨_, pss_cons (ps_if (pt_cmpR op_eq (pe_fld (pv 0) rfl) (pe_gs rfl T.gAsk) (nomark _)) (pss_one (ps_ret (pe_callTy call_tuple_of rfl T.nTuple (by decide +kernel) (pa_cons
          (pe_lc (own := [("number", 2)]) (g := gName 2) (tt := tB (tDNotIn (tVar 2) (tFld K (tVar 0) "rows"))) (te := tTup (tCons (tC (.str "ask")) (tCons (tFld K (tVar 0) "epoch") (tCons (tVar 2) tNil)))) rfl scSSend.nd
            (pi_range1 rfl T.nRange (pa_cons (pe_fld (pv 0) rfl) pa_nil)) (blkOk_by (own := [("number", 2)]) (N := ["self", "found", "number", "place"]) (sc := defScope (sSeq 1)) (by decide +kernel)) (fun _ _ _ _ _ => pg_name (i := 2) scSSend.nd rfl (Or.inl rfl))
            (fun _ _ _ _ _ => pts_one (by exact (pt_cmp (pc_dnotin hu (pv 2) (pe_fld (pv 0) rfl))))) (fun _ _ _ _ _ => by exact (pe_tup (pa_cons pe_str (pa_cons (pe_fld (pv 0) rfl) (pa_cons (pv 2) pa_nil)))))) pa_nil)))) pss_nil)
      (pss_cons (ps_set (i := 1) scSSend.nd rfl (Or.inl rfl) (pe_lst pa_nil))
      (pss_cons (ps_if (pt_cmpR op_eq (pe_fld (pv 0) rfl) (pe_gs rfl T.gLead) (nomark _))
        (pss_one (ps_for PassesOwn.never rfl (pi_range1 rfl T.nRange (pa_cons (pe_fld (pv 0) rfl) pa_nil)) (pg_name (i := 2) scSSend.nd rfl (Or.inl rfl))
          (pss_cons (ps_set (i := 3) scSSend.nd rfl (Or.inl rfl) (pe_dget hu (pe_fld (pv 0) rfl) (pv 2) (fun _ _ => rfl)))
            (pss_one (ps_if (pt_cmpR op_lt (pv 3) (pe_callB call_len_seq rfl T.nLen PySem.boot_len (pa_cons (pe_fld (pv 0) rfl) pa_nil)) (nomark _))
              (pss_one (ps_expr (pe_bm PySem.F.plainAttrs_list PySem.F.slot_list_append PySem.F.type_list_append mt_append (pv 1) (pa_cons (pe_tup (pa_cons pe_str (pa_cons (pe_fld (pv 0) rfl) (pa_cons (pv 2) (pa_cons (pv 3) (pa_cons (pe_ix ix_list (pe_fld (pv 0) rfl) (pv 3) (fun _ _ => rfl)) pa_nil)))))) pa_nil))))
              pss_nil))))) pss_nil)
      (pss_one (ps_ret (pe_callTy call_tuple_of rfl T.nTuple (by decide +kernel) (pa_cons (pv 1) pa_nil)))))), ?_⟩
    obtain ⟨dx, kvs, xs, hp, hrd, hkv, hrl, txs, htd⟩ := id SA
    have hxl := txs.len
    rw [List.length_map] at hxl
    -- what follows behind the list of letters
    have fin : ∀ (f : Addr) (ys : List V) (ls : List Let) (H' : Hp), H' f = some (.lst ys) → TpAll K H' ys (ls.map Let.d) → Same H H' → ls = sq.toSend m →
        ∀ t, H' t = none → Q (.ref t) (upd H' t (.tup ys)) := fun f ys ls H' hf ty s1 e t ht => by
      have s2 := same_new (o := .tup ys) ht
      refine k (.ref t) _ ?_ (s1.trans s2)
      rw [← e]
      exact .tup (SqT.of upd_same) (ty.at (Kept.of_same s2))
    refine ⟨_, rfl, q.p, _, dx, _, _, rfl, hp, T.clS, T.nSs, rfl, rfl, _, rfl, ?_⟩
    show (if decide (V.str sq.stand.str = V.str Stand.asking.str) = true then _ else _)
    rw [stand_eq]
    cases hst : sq.stand with
    | asking =>
      refine iteT ?_
      refine ⟨_, rfl, q.p, _, dx, _, _, rfl, hp, T.clS, T.nSm, rfl, _, rfl, (by omega), (by omega), fun D hD => ?_⟩
      rw [Int.toNat_natCast]
      refine lc_range (fun i H' => ∃ acc, H' D = some (.lst acc) ∧ TpAll K H' acc ((((List.range i).filter fun n => (getR sq.rows n).isNone).map (Let.ask sq.ep)).map Let.d) ∧ Same H H') ⟨[], upd_same, .nil, same_new hD⟩ ?_ ?_
      · rintro i H' hi ⟨acc, hacc, tacc, s1⟩
        rw [Int.zero_add]
        have hal := tacc.len
        rw [List.length_map, List.length_map] at hal
        have hfl := List.length_filter_le (fun n => (getR sq.rows n).isNone) (List.range i)
        rw [List.length_range] at hfl
        refine ⟨rfl, _, rfl, _, rfl, q.p, _, dx, _, _, rfl, s1 _ _ hp, T.clS, T.nSr, rfl, q.rd, _, rfl, DGet.k (k := .inl ((i : Nat) : Int)) (s1 _ _ hrd), _, rfl, ?_⟩
        rw [List.range_succ, List.filter_append]
        rcases hkv.get i with ⟨e1, e2⟩ | ⟨r, v, e1, e2, _⟩
        · rw [e2]
          refine iteT ⟨_, rfl, q.p, _, dx, _, _, rfl, s1 _ _ hp, T.clS, T.nSe, rfl, _, rfl, (by show 3 ≤ sizeLine; decide), fun t ht => ?_⟩
          have s2 := same_new (o := .tup [V.str "ask", V.int sq.ep, V.int (i : Nat)]) ht
          have kk := Kept.of_same s2
          have tt : Tp K (upd H' t (.tup [V.str "ask", V.int sq.ep, V.int (i : Nat)])) (.ref t) (Let.ask sq.ep i).d := mk3 (SqT.of upd_same) (.str _) (.int _) (.int _)
          have ku := kept_upd (u := .lst (acc ++ [.ref t])) (s2 _ _ hacc) (fun z => z)
          refine ⟨acc, s2 _ _ hacc, line_of (by omega), acc ++ [.ref t], upd_same, ?_, fun b o h => ?_⟩
          · have e3 : [i].filter (fun n => (getR sq.rows n).isNone) = [i] := by simp [e1]
            rw [e3, List.map_append, List.map_append]
            exact ((tacc.at kk).at ku).app (.one (tt.at ku))
          · rw [upd_ne (ne_of_none h hD)]
            exact s2 b o (s1 b o h)
        · rw [e2]
          have e3 : [i].filter (fun n => (getR sq.rows n).isNone) = [] := by simp [e1]
          rw [e3, List.append_nil]
          exact iteF ⟨acc, hacc, tacc, s1⟩
      · rintro H1 ⟨acc, hacc, tacc, s1⟩
        refine ⟨D, acc, rfl, .inl ⟨SqL.of hacc, fin D acc _ H1 hacc tacc s1 ?_⟩⟩
        unfold Sq.toSend
        rw [hst]
    | leading =>
      refine iteF ?_
      refine ⟨(by show 0 ≤ sizeLine; decide), fun f hf => ?_⟩
      have s0 := same_new (o := .lst []) hf
      refine ⟨_, rfl, q.p, _, dx, _, _, rfl, s0 _ _ hp, T.clS, T.nSs, rfl, rfl, _, rfl, ?_⟩
      show (if decide (V.str sq.stand.str = V.str Stand.leading.str) = true then _ else _)
      rw [stand_eq, hst]
      refine iteT ?_
      refine ⟨_, rfl, q.p, _, dx, _, _, rfl, s0 _ _ hp, T.clS, T.nSm, rfl, _, rfl, (by omega), (by omega), ?_⟩
      rw [Int.toNat_natCast]
      refine for_range (fun i σ H' => ∃ (v2 v3 : Option V) (ys : List V), σ = [some (.ref q.p), some (.ref f), v2, v3] ∧ H' f = some (.lst ys) ∧
        TpAll K H' ys (((List.range i).filterMap fun n => (sq.row[sq.taken.getD n 0]?).map (Let.write sq.ep n (sq.taken.getD n 0))).map Let.d) ∧ Same H H') ⟨none, none, [], rfl, upd_same, .nil, s0⟩ ?_ ?_
      · rintro i σ H' hi ⟨v2, v3, ys, rfl, hf1, ty, s1⟩
        rw [Int.zero_add]
        have hyl := ty.len
        rw [List.length_map] at hyl
        have hfl := List.length_filterMap_le (fun n => (sq.row[sq.taken.getD n 0]?).map (Let.write sq.ep n (sq.taken.getD n 0))) (List.range i)
        rw [List.length_range] at hfl
        have hit : i < sq.taken.length := by omega
        have eg : sq.taken.getD i 0 = sq.taken[i] := by rw [List.getD_eq_getElem?_getD, List.getElem?_eq_getElem hit]; rfl
        have hv : valV (tkv sq.taken) (.inl ((i : Nat) : Int)) = some (V.int ((sq.taken.getD i 0 : Nat) : Int)) := by
          rw [tkv_get, List.getElem?_eq_getElem hit, eg]
          rfl
        have hg := DGet.k (k := .inl ((i : Nat) : Int)) (s1 _ _ htd)
        rw [hv] at hg
        generalize ec : sq.taken.getD i 0 = c at hg
        refine ⟨_, rfl, q.p, _, dx, _, _, rfl, s1 _ _ hp, T.clS, T.nSt, rfl, ?_⟩
        refine ⟨_, rfl, q.td, _, rfl, hg, ?_⟩
        refine ⟨_, rfl, _, rfl, q.p, _, dx, _, _, rfl, s1 _ _ hp, T.clS, T.nSw, rfl, q.rl, _, rfl, .inl (SqL.of (s1 _ _ hrl)), _, _, rfl, rfl, _, rfl, ?_⟩
        rw [List.range_succ, List.filterMap_append]
        by_cases lt : c < sq.row.length
        · rw [decide_eq_true (show ((c : Nat) : Int) < ((xs.length : Nat) : Int) by omega)]
          obtain ⟨u, hu, tu⟩ := txs.get (i := c) (d := (sq.row[c]).d) (by rw [List.getElem?_map, List.getElem?_eq_getElem lt]; rfl)
          refine iteT ⟨_, rfl, .inl ⟨rfl, _, SqL.of hf1⟩, _, rfl, q.p, _, dx, _, _, rfl, s1 _ _ hp, T.clS, T.nSe, rfl, _, rfl, _, rfl, _, rfl, q.p, _, dx, _, _, rfl, s1 _ _ hp, T.clS, T.nSw, rfl, _, rfl, q.rl, xs, _, u, rfl, rfl, SqL.of (s1 _ _ hrl), atI_nat hu, (by show 5 ≤ sizeLine; decide), fun t ht => ?_⟩
          have s2 := same_new (o := .tup [V.str "write", V.int sq.ep, V.int (i : Nat), V.int (c : Nat), u]) ht
          have kk := Kept.of_same s2
          have tt : Tp K (upd H' t (.tup [V.str "write", V.int sq.ep, V.int (i : Nat), V.int (c : Nat), u])) (.ref t) (Let.write sq.ep i c sq.row[c]).d := mk5 (SqT.of upd_same) (.str _) (.int _) (.int _) (.int _) ((tu.at (Kept.of_same s1)).at kk)
          have ku := kept_upd (u := .lst (ys ++ [.ref t])) (s2 _ _ hf1) (fun z => z)
          refine ⟨f, ys, _, rfl, rfl, s2 _ _ hf1, line_of (by omega), _, _, ys ++ [.ref t], rfl, upd_same, ?_, fun b o h => ?_⟩
          · have e3 : [i].filterMap (fun n => (sq.row[sq.taken.getD n 0]?).map (Let.write sq.ep n (sq.taken.getD n 0))) = [Let.write sq.ep i c sq.row[c]] := by
              refine (List.filterMap_cons_some (b := Let.write sq.ep i c sq.row[c]) ?_).trans rfl
              rw [ec, List.getElem?_eq_getElem lt]
              rfl
            rw [e3, List.map_append]
            exact ((ty.at kk).at ku).app (.one (tt.at ku))
          · rw [upd_ne (ne_of_none h hf)]
            exact s2 b o (s1 b o h)
        · rw [decide_eq_false (show ¬ ((c : Nat) : Int) < ((xs.length : Nat) : Int) by omega)]
          have e3 : [i].filterMap (fun n => (sq.row[sq.taken.getD n 0]?).map (Let.write sq.ep n (sq.taken.getD n 0))) = [] := by
            refine (List.filterMap_cons_none ?_).trans rfl
            rw [ec, List.getElem?_eq_none (by omega)]
            rfl
          rw [e3, List.append_nil]
          exact iteF ⟨_, _, ys, rfl, hf1, ty, s1⟩
      · rintro σ H1 ⟨v2, v3, ys, rfl, hf1, ty, s1⟩
        refine ⟨_, rfl, f, ys, rfl, .inl ⟨SqL.of hf1, fin f ys _ H1 hf1 ty s1 ?_⟩⟩
        unfold Sq.toSend
        rw [hst]
    | stopped =>
      refine iteF ?_
      refine ⟨(by show 0 ≤ sizeLine; decide), fun f hf => ?_⟩
      have s0 := same_new (o := .lst []) hf
      refine ⟨_, rfl, q.p, _, dx, _, _, rfl, s0 _ _ hp, T.clS, T.nSs, rfl, rfl, _, rfl, ?_⟩
      show (if decide (V.str sq.stand.str = V.str Stand.leading.str) = true then _ else _)
      rw [stand_eq, hst]
      refine iteF ?_
      refine ⟨_, rfl, f, [], rfl, .inl ⟨SqL.of upd_same, fin f [] [] _ upd_same .nil s0 ?_⟩⟩
      unfold Sq.toSend
      rw [hst]
theorem scAdd : FnScope ["self", "entry"] ["self", "entry"] (defScope (sSeq 3)) := ⟨rfl, rfl, rfl, by decide +kernel, rfl, by decide +kernel, by decide +kernel⟩
theorem scSSettled : FnScope ["self", "counts"] ["self"] (defScope (sSeq 4)) := ⟨rfl, rfl, rfl, by decide +kernel, rfl, by decide +kernel, by decide +kernel⟩
theorem g_ssettled (T : Txt P K mg a) : ∃ fd, FnOk P w K mg base CX0 2 a.sSettled fd ["self"] (spSSettled K a.cS) ∧ Binds K fd ["self"] [] := by
  obtain ⟨fd, F, b⟩ := T.sSettled
  obtain ⟨fm, GM, bm⟩ := g_most (P := P) (w := w) (base := base) T
  obtain ⟨_, Fm, _⟩ := T.most
  refine ⟨fd, F.ok scSSettled (fun vs H Q E h => ?_) (fun cdv A outer s H vs Q E hr h => ?_), b⟩
  · obtain ⟨m, q, sq, rfl, _⟩ := h
    rfl
  · obtain ⟨m, q, sq, rfl, SA, hm, hm0, htl, k⟩ := h
    refine ⟨_, pss_cons (ps_set (i := 1) scSSettled.nd rfl (Or.inl rfl) (pe_callB cr_sorted rfl T.nSorted (by decide +kernel) (pa_cons (pe_listVals rfl rfl T.nList (pe_fld (pv 0) rfl)) pa_nil)))
      (pss_one (ps_ret (pe_callTy call_tuple_of rfl T.nTuple (by decide +kernel) (pa_cons (pe_slice sl_list (pe_fld (pv 0) rfl) po_none (po_some (pe_ix ix_list (pv 1) (pe_op op_sub (pe_fld (pv 0) rfl)
        (pe_call GM hr rfl T.gMost Fm.kp bm .nil pass0 (pa_cons (pe_fld (pv 0) rfl) pa_nil))) (fun _ _ => rfl)))) pa_nil)))), ?_⟩
    obtain ⟨dx, kvs, xs, hp, hrd, hkv, hrl, txs, htd⟩ := id SA
    refine ⟨_, rfl, q.p, _, dx, _, _, rfl, hp, T.clS, T.nSt, rfl, q.td, _, rfl, htd, fun f hf => ?_⟩
    have s1 := same_new (o := .lst ((tkv sq.taken).map (·.2))) hf
    refine ⟨f, sq.taken.map fun t => ((t : Nat) : Int), rfl, SqL.of ?_, ?_, fun cs c hperm hsort hc => ?_⟩
    · rw [← tkv_vals]
      exact upd_same
    · rw [List.length_map]
      omega
    have s2 := same_new (o := .lst (cs.map V.int)) hc
    have s12 := s1.trans s2
    have hcl : cs.length = m := by rw [hperm.length_eq, List.length_map]; exact htl
    have h1 : 1 ≤ most m := by unfold K41.most; omega
    have h2 : most m ≤ m := by unfold K41.most; omega
    have hlt : m - most m < cs.length := by omega
    obtain ⟨t0, ht0⟩ : ∃ t : Nat, cs[m - most m]? = some ((t : Nat) : Int) := by
      have hin : cs[m - most m] ∈ sq.taken.map fun t => ((t : Nat) : Int) := hperm.subset (List.getElem_mem hlt)
      obtain ⟨t, _, e⟩ := List.mem_map.mp hin
      exact ⟨t, by rw [List.getElem?_eq_getElem hlt, ← e]⟩
    refine ⟨_, rfl, q.p, _, dx, _, _, rfl, s12 _ _ hp, T.clS, T.nSw, rfl, ?_⟩
    refine ⟨_, rfl, _, rfl, q.p, _, dx, _, _, rfl, s12 _ _ hp, T.clS, T.nSm, rfl, _, rfl, q.p, _, dx, _, _, rfl, s12 _ _ hp, T.clS, T.nSm, rfl, m, rfl, _, _, rfl, rfl, ?_⟩
    refine ⟨c, cs.map V.int, _, V.int (t0 : Nat), rfl, rfl, SqL.of upd_same, ?_, _, rfl, q.rl, xs, rfl, SqL.of (s12 _ _ hrl), fun d hd => ?_⟩
    · refine at_of (j := m - most m) (by omega) ?_
      rw [List.getElem?_map, ht0]
      rfl
    have s3 := same_new (o := .lst (cutV xs none (some ((t0 : Nat) : Int)))) hd
    refine ⟨d, _, rfl, .inl ⟨SqL.of upd_same, fun e he => ?_⟩⟩
    have s4 := same_new (o := .tup (cutV xs none (some ((t0 : Nat) : Int)))) he
    have s34 := s12.trans (s3.trans s4)
    refine k (.ref e) cs t0 _ hperm hsort ht0 ?_ s34
    have ecut : cutV xs none (some ((t0 : Nat) : Int)) = xs.take t0 := by
      unfold cutV
      have e1 : HT.sIx xs.length 0 none = 0 := rfl
      have e2 : HT.sIx xs.length xs.length (some ((t0 : Nat) : Int)) = min t0 xs.length := by
        show (if ((t0 : Nat) : Int) < 0 then (((t0 : Nat) : Int) + xs.length).toNat else min (((t0 : Nat) : Int)).toNat xs.length) = _
        rw [if_neg (by omega), Int.toNat_natCast]
      rw [e1, e2, List.drop_zero, Nat.sub_zero]
      rcases Nat.le_total t0 xs.length with h | h
      · rw [Nat.min_eq_left h]
      · rw [Nat.min_eq_right h, List.take_length, List.take_of_length_le h]
    rw [ecut]
    rw [ecut] at s34
    have := (txs.at (Kept.of_same s34)).take t0
    rw [← List.map_take] at this
    exact .tup (SqT.of upd_same) this
end
end K41
set_option Elab.async false
set_option linter.all false
set_option maxRecDepth 100000
set_option maxHeartbeats 4000000
/-! L41I: a sequencer adds and hears. -/
namespace K41
open PySem PySem.Spec PyProof.Rows L2 StX

/-- all but a sequencer's own, its row aside -/
def Off (q : Lo) (H H' : Hp) : Prop := ∀ b o, H b = some o → ¬ (b = q.p ∨ b = q.rd ∨ b = q.td) → H' b = some o
theorem Off.refl (q : Lo) (H : Hp) : Off q H H := fun _ _ h _ => h
theorem Off.trans {q : Lo} {H H1 H2 : Hp} (a : Off q H H1) (b : Off q H1 H2) : Off q H H2 := fun c o h n => b c o (a c o h n) n
theorem Off.of_same {q : Lo} {H H' : Hp} (s : Same H H') : Off q H H' := fun b o h _ => s b o h
theorem Off.p {q : Lo} {H : Hp} {o : HO} : Off q H (upd H q.p o) := fun b u h n => by rw [upd_ne (fun z => n (.inl z))]; exact h
theorem Off.rd {q : Lo} {H : Hp} {o : HO} : Off q H (upd H q.rd o) := fun b u h n => by rw [upd_ne (fun z => n (.inr (.inl z)))]; exact h
theorem Off.td {q : Lo} {H : Hp} {o : HO} : Off q H (upd H q.td o) := fun b u h n => by rw [upd_ne (fun z => n (.inr (.inr z)))]; exact h
theorem Off.kept {K : PySem.W.Frag} {C : Addr} {m : Nat} {H H' : Hp} {q : Lo} {s : Sq} (h : SqAt K C m H q s) (k : Off q H H') : Kept H H' := by
  obtain ⟨dx, kvs, xs, h1, h2, h3, h4, h5, h6⟩ := h
  refine Kept.of_but (p := fun b => b = q.p ∨ b = q.rd ∨ b = q.td) k fun b o e hb => ?_
  rcases e with rfl | rfl | rfl
  · rw [h1] at hb; cases hb; exact fun z => z
  · rw [h2] at hb; cases hb; exact fun z => z
  · rw [h6] at hb; cases hb; exact fun z => z

def spAdd0 (K : PySem.W.Frag) (a : Ad) : Sp := fun vs H Q _ => ∃ (m : Nat) (q : Lo) (s : Sq) (v : V) (x : Ent), vs = [.ref q.p, v] ∧ SqAt K a.cS m H q s ∧ Tp K H v x.d ∧ s.row.length ≤ 1000000 ∧
  s.stand = .leading ∧ ∀ H', SqAt K a.cS m H' q (s.add x) → But q.rl H H' → Q .non H'

section
variable {P : Program} {w : World} {K : PySem.W.Frag} {mg : Str → Option Value} {base : Heap} {a : Ad}
/-- the row grows -/
theorem add_at {C : Addr} {m : Nat} {H : Hp} {q : Lo} {sq : Sq} {v : V} {x : Ent} {xs : List V} (SA : SqAt K C m H q sq) (hrl : H q.rl = some (.lst xs)) (tv : Tp K H v x.d) : SqAt K C m (upd H q.rl (.lst (xs ++ [v]))) q (sq.add x) := by
  obtain ⟨dx, kvs, xs', hp, hrd, hkv, hrl', txs, htd⟩ := SA
  rw [hrl] at hrl'
  cases hrl'
  have ku := kept_upd (u := .lst (xs ++ [v])) hrl (fun z => z)
  refine ⟨dx, kvs, xs ++ [v], ?_, ?_, hkv.at ku, upd_same, ?_, ?_⟩
  · rw [upd_ne (ne_of hp hrl (by intro z; cases z))]
    exact hp
  · rw [upd_ne (ne_of hrd hrl (by intro z; cases z))]
    exact hrd
  · show TpAll K _ _ ((sq.row ++ [x]).map Ent.d)
    rw [List.map_append]
    exact (txs.at ku).app (.one (tv.at ku))
  · rw [upd_ne (ne_of htd hrl (by intro z; cases z))]
    exact htd
theorem g_add (T : Txt P K mg a) : ∃ fd, FnOk P w K mg base (L2.CX P w) 3 a.sAdd fd ["self", "entry"] (spAdd K a) ∧ Binds K fd ["self", "entry"] [] := by
  obtain ⟨fd, F, b⟩ := T.sAdd
  refine ⟨fd, F.okX scAdd (fun vs H Q E h => ?_) (fun cdv A outer s H vs Q E hr h => ?_), b⟩
  · obtain ⟨m, q, sq, v, rfl, _⟩ := h
    rfl
  · obtain ⟨m, q, sq, v, rfl, SA, c, k2⟩ := h
    refine ⟨_, pss_cons (ps_if (pt_cmpR op_ne (pe_fld (pv 0) rfl) (pe_gs rfl T.gLead) (nomark _)) (pss_one (ps_raiseBad (W := fun cls d _ H => E cls d H) rfl T.bad hr (takes_of rfl rfl rfl rfl) (by exact (pa_cons (pv 1) pa_nil)))) pss_nil)
      (pss_one (ps_expr (pe_bm PySem.F.plainAttrs_list PySem.F.slot_list_append PySem.F.type_list_append mt_append (pe_fld (pv 0) rfl) (pa_cons (pv 1) pa_nil)))), ?_⟩
    obtain ⟨dx, kvs, xs, hp, hrd, hkv, hrl, txs, htd⟩ := id SA
    have hxl := txs.len
    rw [List.length_map] at hxl
    refine ⟨_, rfl, q.p, _, dx, _, _, rfl, hp, T.clS, T.nSs, rfl, rfl, _, rfl, ?_⟩
    show (if (!decide (V.str sq.stand.str = V.str Stand.leading.str)) = true then _ else _)
    rw [stand_eq]
    rw [decide_eq_false c]
    exact iteT ⟨_, rfl, _, rfl, fun d hd => k2 d hd⟩
theorem g_add0 (T : Txt P K mg a) : ∃ fd, FnOk P w K mg base CX0 3 a.sAdd fd ["self", "entry"] (spAdd0 K a) ∧ Binds K fd ["self", "entry"] [] := by
  obtain ⟨fd, F, b⟩ := T.sAdd
  refine ⟨fd, F.ok scAdd (fun vs H Q E h => ?_) (fun cdv A outer s H vs Q E hr h => ?_), b⟩
  · obtain ⟨m, q, sq, v, x, rfl, _⟩ := h
    rfl
  · obtain ⟨m, q, sq, v, x, rfl, SA, tv, hlen, c, k1⟩ := h
    refine ⟨_, pss_cons (ps_if (pt_cmpR op_ne (pe_fld (pv 0) rfl) (pe_gs rfl T.gLead) (nomark _)) (pss_one (ps_raiseBad (W := fun _ _ _ _ => False) rfl T.bad hr takes0 (by exact (pa_cons (pv 1) pa_nil)))) pss_nil)
      (pss_one (ps_expr (pe_bm PySem.F.plainAttrs_list PySem.F.slot_list_append PySem.F.type_list_append mt_append (pe_fld (pv 0) rfl) (pa_cons (pv 1) pa_nil)))), ?_⟩
    obtain ⟨dx, kvs, xs, hp, hrd, hkv, hrl, txs, htd⟩ := id SA
    have hxl := txs.len
    rw [List.length_map] at hxl
    refine ⟨_, rfl, q.p, _, dx, _, _, rfl, hp, T.clS, T.nSs, rfl, rfl, _, rfl, ?_⟩
    show (if (!decide (V.str sq.stand.str = V.str Stand.leading.str)) = true then _ else _)
    rw [stand_eq, decide_eq_true c]
    refine iteF ?_
    refine ⟨_, rfl, q.p, _, dx, _, _, rfl, hp, T.clS, T.nSw, rfl, .inl ⟨rfl, _, SqL.of hrl⟩, _, rfl, q.rl, xs, v, rfl, rfl, hrl, line_of (by omega), ?_⟩
    exact k1 _ (add_at SA hrl tv) But.upd
theorem scHear : FnScope ["self", "letter", "number"] ["self", "letter"] (defScope (sSeq 2)) := ⟨rfl, rfl, rfl, by decide +kernel, rfl, by decide +kernel, by decide +kernel⟩
theorem g_hear (T : Txt P K mg a) : ∃ fd, FnOk P w K mg base CX0 2 a.sHear fd ["self", "letter"] (spHear K a.cS) ∧ Binds K fd ["self", "letter"] [] := by
  obtain ⟨fd, F, b⟩ := T.sHear
  obtain ⟨fm, GM, bm⟩ := g_most (P := P) (w := w) (base := base) T
  obtain ⟨_, Fm, _⟩ := T.most
  obtain ⟨fn, GN, bn⟩ := g_newest (P := P) (w := w) (base := base) T
  obtain ⟨_, Fn, _⟩ := T.newest
  refine ⟨fd, F.ok scHear (fun vs H Q E h => ?_) (fun cdv A outer s H vs Q E hr h => ?_), b⟩
  · obtain ⟨m, q, sq, v, y, rfl, _⟩ := h
    rfl
  · obtain ⟨m, q, sq, v, y, rfl, SA, tv, hnum, hne, hm, htl, hnd, hlt, B, hsm, k⟩ := h
    have hu : (A.deeper (envOfC "Sequencer.hear" (defScope (sSeq 2)) s.heap.objs.size a.sHear cdv)).units + 1 < cLine := by have := hr.un; omega
    refine ⟨_, pss_cons (ps_if (PW.pt (pw_or (pt_cmpR op_ne (pe_ix ix_tup (pv 1) pe_int (fun _ _ => rfl)) (pe_fld (pv 0) rfl) (nomark _)) (pw_or1 (pt_cmpR op_eq (pe_fld (pv 0) rfl) (pe_gs rfl T.gStop) (nomark _))))) (pss_one ps_retN) pss_nil)
      (pss_one (ps_if (pt_cmpR op_eq (pe_ix ix_tup (pv 1) pe_int (fun _ _ => rfl)) pe_str (nomark _))
        (pss_one (ps_fld (pv 0) (pe_gs rfl T.gStop) rfl))
        (pss_one (ps_if (PW.pt (pw_and (pt_cmpR op_eq (pe_ix ix_tup (pv 1) pe_int (fun _ _ => rfl)) pe_str (nomark _)) (pw_and1 (pt_cmpR op_eq (pe_fld (pv 0) rfl) (pe_gs rfl T.gAsk) (nomark _)))))
          (pss_cons (ps_dput hu (pe_fld (pv 0) rfl) (pe_ix ix_tup (pv 1) pe_int (fun _ _ => rfl)) (pe_ix ix_tup (pv 1) pe_int (fun _ _ => rfl)) rfl)
            (pss_one (ps_if (pt_cmpR op_ge (pe_callB call_lenD rfl T.nLen PySem.boot_len (pa_cons (pe_fld (pv 0) rfl) pa_nil)) (pe_call GM hr rfl T.gMost Fm.kp bm .nil pass0 (pa_cons (pe_fld (pv 0) rfl) pa_nil)) (nomark _))
              (pss_cons (ps_fld (pv 0) (pe_call GN hr rfl T.gNewest Fn.kp bn .nil pass0 (pa_cons
                  (pe_lc (own := [("number", 2)]) (g := gName 2) (te := tDGet (tFld K (tVar 0) "rows") (tVar 2)) rfl scHear.nd
                    (pi_list (pe_callB cr_sorted rfl T.nSorted (by decide +kernel) (pa_cons (pe_callTy (call_listD rfl) rfl T.nList (by decide +kernel) (pa_cons (pe_fld (pv 0) rfl) pa_nil)) pa_nil)))
                    (blkOk_by (own := [("number", 2)]) (N := ["self", "letter", "number"]) (sc := defScope (sSeq 2)) (by decide +kernel)) (fun _ _ _ _ _ => pg_name (i := 2) scHear.nd rfl (Or.inl rfl))
                    (fun _ _ _ _ _ => pts_nil) (fun _ _ _ _ _ => by exact (pe_dget hu (pe_fld (pv 0) rfl) (pv 2) (fun _ _ => rfl)))) pa_nil)) rfl)
                (pss_one (ps_fld (pv 0) (pe_gs rfl T.gLead) rfl))) pss_nil)))
          (pss_one (ps_if (PW.pt (pw_and (pt_cmpR op_eq (pe_ix ix_tup (pv 1) pe_int (fun _ _ => rfl)) pe_str (nomark _)) (pw_and (pt_cmpR op_eq (pe_fld (pv 0) rfl) (pe_gs rfl T.gLead) (nomark _))
              (pw_and1 (pt_cmpR op_eq (pe_ix ix_tup (pv 1) pe_int (fun _ _ => rfl)) (pe_dget hu (pe_fld (pv 0) rfl) (pe_ix ix_tup (pv 1) pe_int (fun _ _ => rfl)) (fun _ _ => rfl)) (nomark _))))))
            (pss_one (ps_daug hu (pe_fld (pv 0) rfl) (pe_ix ix_tup (pv 1) pe_int (fun _ _ => rfl)) pe_int in_add (by intros; rfl))) pss_nil)))))), ?_⟩
    obtain ⟨dx, kvs, xs, hp, hrd, hkv, hrl, txs, htd⟩ := id SA
    have hxl := txs.len
    rw [List.length_map] at hxl
    obtain ⟨t, ls, rfl, hs, e1⟩ : ∃ t ls, v = .ref t ∧ SqT K H t ls ∧ ls[1]? = some (V.int y.ep) := by
      cases y with
      | refused e n j =>
        obtain ⟨t, x0, x1, x2, x3, rfl, hs, h0, h1, h2, h3⟩ := tp4 tv
        cases tp_int h1
        exact ⟨t, _, rfl, hs, rfl⟩
      | told e n r =>
        obtain ⟨t, x0, x1, x2, x3, rfl, hs, h0, h1, h2, h3⟩ := tp4 tv
        cases tp_int h1
        exact ⟨t, _, rfl, hs, rfl⟩
      | taken e n j =>
        obtain ⟨t, x0, x1, x2, x3, rfl, hs, h0, h1, h2, h3⟩ := tp4 tv
        cases tp_int h1
        exact ⟨t, _, rfl, hs, rfl⟩
      | ask e n =>
        obtain ⟨t, x0, x1, x2, rfl, hs, h0, h1, h2⟩ := tp3 tv
        cases tp_int h1
        exact ⟨t, _, rfl, hs, rfl⟩
      | write e n j x =>
        obtain ⟨t, x0, x1, x2, x3, x4, rfl, hs, h0, h1, h2, h3, h4⟩ := tp5 tv
        cases tp_int h1
        exact ⟨t, _, rfl, hs, rfl⟩
    have stay : sq.hear m y = sq → Q .non H := fun e => k q.rl H (by rw [e]; exact SA) (.inl rfl) (Off.refl _ _)
    refine ⟨_, rfl, t, _, 1, _, rfl, rfl, hs, at_of (j := 1) rfl e1, _, rfl, q.p, _, dx, _, _, rfl, hp, T.clS, T.nSe, rfl, rfl, _, rfl, ?_⟩
    by_cases hep : y.ep = sq.ep
    · rw [decide_eq_true (congrArg V.int hep)]
      refine iteF ?_
      refine ⟨_, rfl, q.p, _, dx, _, _, rfl, hp, T.clS, T.nSs, rfl, rfl, _, rfl, ?_⟩
      show (if decide (V.str sq.stand.str = V.str Stand.stopped.str) = true then _ else _)
      rw [stand_eq]
      by_cases hst : sq.stand = .stopped
      · rw [decide_eq_true hst]
        exact iteT (stay (hear_stopped hst))
      · rw [decide_eq_false hst]
        refine iteF ?_
        have eh : sq.hear m y = sq.hearOwn m y := hear_own hep hst
        cases y with
        | refused e n j =>
          obtain ⟨t', x0, x1, x2, x3, e0, hs', h0, h1, h2, h3⟩ := tp4 tv
          cases e0
          cases tp_str h0
          refine ⟨_, rfl, t, _, 0, _, rfl, rfl, hs', rfl, rfl, _, rfl, iteT ?_⟩
          refine ⟨_, rfl, q.p, _, dx, _, rfl, hp, T.clS, T.nSs, (by show 6 < 1000; decide), ?_⟩
          have ku := kept_upd (u := .ins a.cS dx (sqF m { sq with stand := .stopped } q)) hp (fun z => z)
          refine k q.rl (upd H q.p (.ins a.cS dx (sqF m { sq with stand := .stopped } q))) ?_ (.inl rfl) Off.p
          rw [eh]
          refine ⟨dx, kvs, xs, upd_same, ?_, hkv.at ku, ?_, txs.at ku, ?_⟩
          · rw [upd_ne (ne_of hrd hp (by intro z; cases z))]
            exact hrd
          · rw [upd_ne (ne_of hrl hp (by intro z; cases z))]
            exact hrl
          · rw [upd_ne (ne_of htd hp (by intro z; cases z))]
            exact htd
        | told e n r =>
          obtain ⟨t', x0, x1, x2, x3, e0, hs', h0, h1, h2, h3⟩ := tp4 tv
          cases e0
          cases tp_str h0
          cases tp_int h2
          have hn : n < m := hnum
          refine ⟨_, rfl, t, _, 0, _, rfl, rfl, hs', rfl, rfl, _, rfl, iteF ?_⟩
          refine ⟨_, rfl, t, _, 0, _, rfl, rfl, hs', rfl, rfl, _, rfl, iteT ?_⟩
          refine ⟨_, rfl, q.p, _, dx, _, _, rfl, hp, T.clS, T.nSs, rfl, rfl, _, rfl, ?_⟩
          show (if decide (V.str sq.stand.str = V.str Stand.asking.str) = true then _ else _)
          rw [stand_eq]
          by_cases ha : sq.stand = .asking
          · rw [decide_eq_true ha]
            refine iteT ?_
            have hrl10 : sq.rows.length ≤ m := by
              have := nodup_le hnd (fun x hx => by obtain ⟨z, hz, rfl⟩ := List.mem_map.mp hx; exact hlt z hz)
              rwa [List.length_map] at this
            have hkl := Paired.length hkv
            have hrn : q.rd ≠ q.p := ne_of hrd hp (by intro z; cases z)
            have hln : q.rl ≠ q.rd := ne_of hrl hrd (by intro z; cases z)
            refine ⟨_, rfl, t, _, 3, _, rfl, rfl, hs', rfl, _, rfl, q.p, _, dx, _, _, rfl, hp, T.clS, T.nSr, rfl, _, rfl, t, _, 2, _, rfl, rfl, hs', rfl, q.rd, _, rfl, DPut.k (k := .inl ((n : Nat) : Int)) hrd (line_of (by omega)), ?_⟩
            have ku := kept_upd (u := .dK (putK kvs (.inl ((n : Nat) : Int)) x3)) hrd (fun z => z)
            have hkv1 := (hkv.put n h3).at ku
            have SA1 : SqAt K a.cS m (upd H q.rd (.dK (putK kvs (.inl ((n : Nat) : Int)) x3))) q { sq with rows := putR sq.rows n r } := by
              refine ⟨dx, _, xs, ?_, upd_same, hkv1, ?_, txs.at ku, ?_⟩
              · rw [upd_ne hrn.symm]
                exact hp
              · rw [upd_ne hln]
                exact hrl
              · rw [upd_ne hne.symm]
                exact htd
            have o1 : Off q H (upd H q.rd (.dK (putK kvs (.inl ((n : Nat) : Int)) x3))) := Off.rd
            generalize hH1 : upd H q.rd (.dK (putK kvs (.inl ((n : Nat) : Int)) x3)) = H1 at SA1 o1 ⊢
            clear hkv1 ku hH1
            -- the rows now
            have hnd1 : ((putR sq.rows n r).map (·.1)).Nodup := putR_nodup hnd
            have hlt1 : ∀ z ∈ putR sq.rows n r, z.1 < m := fun z hz => by
              rcases putR_mem (n' := z.1) (r' := z.2) hz with ⟨e1, _⟩ | h
              · rw [e1]; exact hn
              · exact hlt _ h
            have hsm1 : ∀ z ∈ putR sq.rows n r, z.2.length ≤ 100000 := fun z hz => by
              rcases putR_mem (n' := z.1) (r' := z.2) hz with ⟨_, e1⟩ | h
              · rw [e1]; exact hsm
              · exact B.rows _ h
            have hown : sq.hearOwn m (.told e n r) = if most m ≤ (putR sq.rows n r).length then { sq with rows := putR sq.rows n r, row := newest (sortedRows m (putR sq.rows n r)), stand := .leading } else { sq with rows := putR sq.rows n r } := by
              simp only [Sq.hearOwn, if_pos ha]
            rw [eh, hown] at k
            generalize putR sq.rows n r = rows at *
            have hrl1 : rows.length ≤ m := by
              have := nodup_le hnd1 (fun x hx => by obtain ⟨z, hz, rfl⟩ := List.mem_map.mp hx; exact hlt1 z hz)
              rwa [List.length_map] at this
            obtain ⟨dx1, kv1, xs1, hp1, hrd1, hkv1, hrl1', txs1, htd1⟩ := id SA1
            have hkl1 : kv1.length = rows.length := Paired.length hkv1
            have back : ∀ {H' : Hp} {c : Addr}, Same H1 H' → H' c = none → H c = none := fun {H' c} sm hc => by
              cases eq : H c with
              | none => rfl
              | some o =>
                exfalso
                by_cases z : c = q.p ∨ c = q.rd ∨ c = q.td
                · rcases z with rfl | rfl | rfl
                  · rw [sm _ _ hp1] at hc; cases hc
                  · rw [sm _ _ hrd1] at hc; cases hc
                  · rw [sm _ _ htd1] at hc; cases hc
                · rw [sm _ _ (o1 c o eq z)] at hc; cases hc
            refine ⟨_, rfl, q.p, _, dx1, _, _, rfl, hp1, T.clS, T.nSr, rfl, q.rd, kv1, rfl, hrd1, _, rfl, q.p, _, dx1, _, _, rfl, hp1, T.clS, T.nSm, rfl, m, rfl, _, _, rfl, rfl, _, rfl, ?_⟩
            by_cases big : most m ≤ rows.length
            · rw [decide_eq_true (show ((most m : Nat) : Int) ≤ ((kv1.length : Nat) : Int) by omega)]
              rw [if_pos big] at k
              refine iteT ?_
              refine ⟨_, rfl, q.p, _, dx1, _, _, rfl, hp1, T.clS, T.nSr, rfl, q.rd, kv1, rfl, .inl hrd1, fun f hf => ?_⟩
              have s2 := same_new (o := .lst (kv1.map fun kv => kV kv.1)) hf
              refine ⟨f, rows.map fun z => ((z.1 : Nat) : Int), rfl, SqL.of ?_, ?_, fun cs c hperm hsort hc => ?_⟩
              · rw [← hkv1.keys]
                exact upd_same
              · rw [List.length_map]
                omega
              obtain rfl := keys_sorted hnd1 hlt1 hperm hsort
              have s3 := same_new (o := .lst (((keysOf m rows).map fun n => ((n : Nat) : Int)).map V.int)) hc
              have hc3 : (upd (upd H1 f (.lst (kv1.map fun kv => kV kv.1))) c (.lst (((keysOf m rows).map fun n => ((n : Nat) : Int)).map V.int))) c = some (.lst (((keysOf m rows).map fun n => ((n : Nat) : Int)).map V.int)) := upd_same
              have s13 := s2.trans s3
              generalize upd (upd H1 f (.lst (kv1.map fun kv => kV kv.1))) c (.lst (((keysOf m rows).map fun n => ((n : Nat) : Int)).map V.int)) = H3 at s13 hc3 ⊢
              clear s2 s3 hc hf
              refine ⟨c, rfl, ⟨_, SqL.of hc3⟩, fun D hD => ?_⟩
              refine lc_list (K := K) (a := c) (xs := ((keysOf m rows).map fun n => ((n : Nat) : Int)).map V.int) (fun i H' => ∃ acc, H' D = some (.lst acc) ∧ TpAll K H' acc ((((keysOf m rows).take i).filterMap (getR rows)).map rowD) ∧ Same H3 H')
                ⟨[], upd_same, .nil, same_new hD⟩ (fun i H' _ ⟨_, _, _, s4⟩ => s4.seq (SqL.of hc3)) ?_ ?_
              · rintro i y H' hi ⟨acc, hacc, tacc, s4⟩
                rw [List.getElem?_map, List.getElem?_map] at hi
                obtain ⟨z, hz, rfl⟩ := Option.map_eq_some_iff.mp hi
                obtain ⟨n', hn', rfl⟩ := Option.map_eq_some_iff.mp hz
                have hin := List.mem_of_getElem? hn'
                unfold keysOf at hin
                have hso := (List.mem_filter.mp hin).2
                have s14 := s13.trans s4
                have hal := tacc.len
                rw [List.length_map] at hal
                have hfl := List.length_filterMap_le (getR rows) ((keysOf m rows).take i)
                have hkk : (keysOf m rows).length ≤ m := by
                  have := List.length_filter_le (fun n => (getR rows n).isSome) (List.range m)
                  rwa [List.length_range] at this
                rw [List.length_take] at hfl
                rcases hkv1.get n' with ⟨g1, g2⟩ | ⟨r', v', g1, g2, tv'⟩
                · rw [g1] at hso
                  cases hso
                · refine ⟨rfl, tYes_ ?_⟩
                  refine iteT ?_
                  have hg := DGet.k (k := .inl ((n' : Nat) : Int)) (s14 _ _ hrd1)
                  rw [g2] at hg
                  refine ⟨_, rfl, q.p, _, dx1, _, _, rfl, s14 _ _ hp1, T.clS, T.nSr, rfl, _, rfl, q.rd, v', rfl, hg, acc, hacc, line_of (by omega), acc ++ [v'], upd_same, ?_, fun b o h => ?_⟩
                  · have ku := kept_upd (u := .lst (acc ++ [v'])) hacc (fun z => z)
                    have e3 : [n'].filterMap (getR rows) = [r'] := (List.filterMap_cons_some g1).trans rfl
                    rw [take_next hn', List.filterMap_append, e3, List.map_append]
                    exact (tacc.at ku).app (.one ((tv'.at (Kept.of_same s14)).at ku))
                  · rw [upd_ne (ne_of_none h hD)]
                    exact s4 b o h
              · rintro H4 ⟨acc, hacc, tacc, s4⟩
                rw [List.length_map, List.length_map, List.take_length, ← sortedRows_keys] at tacc
                have s14 := s13.trans s4
                refine ⟨D, acc, sortedRows m rows, rfl, SqL.of hacc, tacc, ?_, fun r' hr' => ?_, fun f2 ys H5 hf2 ty2 hfree s5 => ?_⟩
                · have := List.length_filterMap_le (getR rows) (List.range m)
                  rw [List.length_range] at this
                  show ((List.range m).filterMap (getR rows)).length ≤ 10
                  omega
                · obtain ⟨n', hn'⟩ := sorted_mem hr'
                  exact hsm1 _ hn'
                have s15 := s14.trans s5
                refine ⟨_, rfl, q.p, _, dx1, _, rfl, s15 _ _ hp1, T.clS, T.nSw, (by show 6 < 1000; decide), ?_⟩
                refine ⟨_, rfl, q.p, _, dx1, _, rfl, upd_same, T.clS, T.nSs, (by show 6 < 1000; decide), ?_⟩
                have hp5 := s15 _ _ hp1
                have ku : Kept H5 (upd (upd H5 q.p (.ins a.cS dx1 (sqF m { sq with rows := rows } { q with rl := f2 }))) q.p (.ins a.cS dx1 (sqF m { sq with rows := rows, stand := .leading } { q with rl := f2 }))) :=
                  (kept_upd hp5 (fun z => z)).trans (kept_upd upd_same (fun z => z))
                have nf : f2 ≠ q.p := ne_of hf2 hp5 (by intro z; cases z)
                have nr : q.rd ≠ q.p := ne_of (s15 _ _ hrd1) hp5 (by intro z; cases z)
                have nt : q.td ≠ q.p := ne_of (s15 _ _ htd1) hp5 (by intro z; cases z)
                refine k f2 (upd (upd H5 q.p (.ins a.cS dx1 (sqF m { sq with rows := rows } { q with rl := f2 }))) q.p (.ins a.cS dx1 (sqF m { sq with rows := rows, stand := .leading } { q with rl := f2 }))) ⟨dx1, kv1, ys, upd_same, ?_, (hkv1.at (Kept.of_same s15)).at ku, ?_, ty2.at ku, ?_⟩ (.inr (back s14 hfree)) (o1.trans ((Off.of_same s15).trans (Off.p.trans Off.p)))
                · rw [upd_ne nr, upd_ne nr]
                  exact s15 _ _ hrd1
                · rw [upd_ne nf, upd_ne nf]
                  exact hf2
                · rw [upd_ne nt, upd_ne nt]
                  exact s15 _ _ htd1
            · rw [decide_eq_false (show ¬ ((most m : Nat) : Int) ≤ ((kv1.length : Nat) : Int) by omega)]
              rw [if_neg big] at k
              exact iteF (k q.rl _ SA1 (.inl rfl) o1)
          · rw [decide_eq_false ha]
            refine iteF ?_
            refine ⟨_, rfl, t, _, 0, _, rfl, rfl, hs', rfl, rfl, _, rfl, iteF (iteF (stay ?_))⟩
            rw [eh]
            simp only [Sq.hearOwn, if_neg ha]
        | taken e n j =>
          obtain ⟨t', x0, x1, x2, x3, e0, hs', h0, h1, h2, h3⟩ := tp4 tv
          cases e0
          cases tp_str h0
          cases tp_int h2
          cases tp_int h3
          have hn : n < m := hnum
          refine ⟨_, rfl, t, _, 0, _, rfl, rfl, hs', rfl, rfl, _, rfl, iteF ?_⟩
          refine ⟨_, rfl, t, _, 0, _, rfl, rfl, hs', rfl, rfl, _, rfl, iteF (iteF ?_)⟩
          refine ⟨_, rfl, t, _, 0, _, rfl, rfl, hs', rfl, rfl, _, rfl, iteT ?_⟩
          refine ⟨_, rfl, q.p, _, dx, _, _, rfl, hp, T.clS, T.nSs, rfl, rfl, _, rfl, ?_⟩
          show (if decide (V.str sq.stand.str = V.str Stand.leading.str) = true then _ else _)
          rw [stand_eq]
          have hno : ¬ (sq.stand = .leading ∧ sq.taken[n]? = some j) → sq.hear m (.taken e n j) = sq := fun z => by
            rw [eh]
            simp only [Sq.hearOwn, if_neg z]
          by_cases hl : sq.stand = .leading
          · rw [decide_eq_true hl]
            refine iteT ?_
            have hit : n < sq.taken.length := by omega
            obtain ⟨c, hc⟩ : ∃ c, sq.taken[n]? = some c := ⟨_, List.getElem?_eq_getElem hit⟩
            have hg := DGet.k (k := .inl ((n : Nat) : Int)) htd
            rw [tkv_get, hc] at hg
            refine ⟨_, rfl, t, _, 3, _, rfl, rfl, hs', rfl, _, rfl, q.p, _, dx, _, _, rfl, hp, T.clS, T.nSt, rfl, _, rfl, t, _, 2, _, rfl, rfl, hs', rfl, q.td, _, rfl, hg, rfl, _, rfl, ?_⟩
            by_cases z : c = j
            · subst z
              rw [decide_eq_true rfl]
              refine iteT ?_
              refine ⟨_, rfl, q.p, _, dx, _, _, rfl, hp, T.clS, T.nSt, rfl, _, rfl, t, _, 2, _, rfl, rfl, hs', rfl, q.td, _, rfl, hg, _, _, rfl, rfl, _, DPut.k (k := .inl ((n : Nat) : Int)) htd (line_of (by rw [tkv_len]; omega)), ?_⟩
              have eset : putK (tkv sq.taken) (.inl ((n : Nat) : Int)) (V.int (((c : Nat) : Int) + 1)) = tkv (sq.taken.set n (c + 1)) := tkv_set sq.taken (c + 1) hit
              have ku := kept_upd (u := .dK (tkv (sq.taken.set n (c + 1)))) htd (fun z => z)
              have hk : sq.hear m (.taken e n c) = { sq with taken := sq.taken.set n (c + 1) } := by
                rw [eh]
                simp only [Sq.hearOwn, if_pos (show sq.stand = .leading ∧ sq.taken[n]? = some c from ⟨hl, hc⟩)]
              rw [hk] at k
              show Q .non (upd H q.td (.dK (putK (tkv sq.taken) (.inl ((n : Nat) : Int)) (V.int (((c : Nat) : Int) + 1)))))
              rw [eset]
              refine k q.rl _ ⟨dx, kvs, xs, ?_, ?_, hkv.at ku, ?_, txs.at ku, upd_same⟩ (.inl rfl) Off.td
              · rw [upd_ne (ne_of hp htd (by intro z; cases z))]
                exact hp
              · rw [upd_ne hne]
                exact hrd
              · rw [upd_ne (ne_of hrl htd (by intro z; cases z))]
                exact hrl
            · rw [decide_eq_false (show ¬ V.int ((j : Nat) : Int) = V.int ((c : Nat) : Int) from fun h => z (by injection h with h; omega))]
              exact iteF (stay (hno fun h => z (by rw [hc] at h; exact Option.some.inj h.2)))
          · rw [decide_eq_false hl]
            exact iteF (iteF (stay (hno fun h => hl h.1)))
        | ask e n =>
          obtain ⟨t', x0, x1, x2, e0, hs', h0, h1, h2⟩ := tp3 tv
          cases e0
          cases tp_str h0
          refine ⟨_, rfl, t, _, 0, _, rfl, rfl, hs', rfl, rfl, _, rfl, iteF ?_⟩
          refine ⟨_, rfl, t, _, 0, _, rfl, rfl, hs', rfl, rfl, _, rfl, iteF (iteF ?_)⟩
          exact ⟨_, rfl, t, _, 0, _, rfl, rfl, hs', rfl, rfl, _, rfl, iteF (iteF (stay eh))⟩
        | write e n j x =>
          obtain ⟨t', x0, x1, x2, x3, x4, e0, hs', h0, h1, h2, h3, h4⟩ := tp5 tv
          cases e0
          cases tp_str h0
          refine ⟨_, rfl, t, _, 0, _, rfl, rfl, hs', rfl, rfl, _, rfl, iteF ?_⟩
          refine ⟨_, rfl, t, _, 0, _, rfl, rfl, hs', rfl, rfl, _, rfl, iteF (iteF ?_)⟩
          exact ⟨_, rfl, t, _, 0, _, rfl, rfl, hs', rfl, rfl, _, rfl, iteF (iteF (stay eh))⟩
    · rw [decide_eq_false (fun z => hep (V.int.inj z))]
      exact iteT (iteT (stay (hear_other hep)))
end
end K41
set_option Elab.async false
set_option linter.all false
set_option maxRecDepth 100000
set_option maxHeartbeats 4000000
/-! L41J: a council in the heap; what a step at one of its parts leaves. -/
namespace K41
open PySem PySem.Spec PyProof.Rows L2 StX

/-- where a council's parts stand -/
structure Wd where
  (c kl sl ll : Addr)
  ka : List Addr
  qa : List Lo
/-- a council of m keepers; lists that others guard -/
structure CouAt (K : PySem.W.Frag) (a : Ad) (m : Nat) (G : Addr → Prop) (H : Hp) (W : Wd) (ks : List Kp) (ss : List Sq) (ls : List Let) : Prop where
  ob : ∃ dx, H W.c = some (.ins a.cC dx [(("keepers" : Str), .ref W.kl), ("sequencers", .ref W.sl), ("letters", .ref W.ll)])
  kls : H W.kl = some (.lst (W.ka.map V.ref))
  sls : H W.sl = some (.lst (W.qa.map fun q => V.ref q.p))
  lls : ∃ lv, H W.ll = some (.lst lv) ∧ TpAll K H lv (ls.map Let.d)
  kees : KeesAt K a.cK H W.ka ks
  qlen : W.qa.length = ss.length
  seqs : ∀ (i : Nat) q s, W.qa[i]? = some q → ss[i]? = some s → SqAt K a.cS m H q s
  kn : W.ka.Nodup
  qn : ∀ (i j : Nat) q r, i ≠ j → W.qa[i]? = some q → W.qa[j]? = some r → q.p ≠ r.p ∧ q.rd ≠ r.rd ∧ q.rd ≠ r.td ∧ q.td ≠ r.td ∧ q.rl ≠ r.rl
  qo : ∀ q ∈ W.qa, q.rd ≠ q.td ∧ q.rl ≠ W.kl ∧ q.rl ≠ W.sl ∧ q.rl ≠ W.ll
  ns : W.kl ≠ W.sl ∧ W.kl ≠ W.ll ∧ W.sl ≠ W.ll
  gd : ∀ b, G b → (∃ xs, H b = some (.lst xs)) ∧ b ≠ W.kl ∧ b ≠ W.sl ∧ b ≠ W.ll ∧ ∀ q ∈ W.qa, b ≠ q.rl
/-- what is guarded and what cannot change stays -/
def Fr (G : Addr → Prop) (H H' : Hp) : Prop := (∀ b, G b → H' b = H b) ∧ Kept H H'
theorem Fr.refl (G : Addr → Prop) (H : Hp) : Fr G H H := ⟨fun _ _ => rfl, Kept.refl _⟩
theorem Fr.trans {G : Addr → Prop} {H H1 H2 : Hp} (a : Fr G H H1) (b : Fr G H1 H2) : Fr G H H2 := ⟨fun c h => (b.1 c h).trans (a.1 c h), a.2.trans b.2⟩

section
variable {K : PySem.W.Frag} {a : Ad} {m : Nat} {G : Addr → Prop} {H H' : Hp} {W : Wd} {ks : List Kp} {ss : List Sq} {ls : List Let}
theorem CouAt.at_q (h : CouAt K a m G H W ks ss ls) {i : Nat} {s : Sq} (hs : ss[i]? = some s) : ∃ q, W.qa[i]? = some q ∧ SqAt K a.cS m H q s := by
  have hi : i < W.qa.length := by rw [h.qlen]; exact (List.getElem?_eq_some_iff.mp hs).1
  exact ⟨_, List.getElem?_eq_getElem hi, h.seqs i _ s (List.getElem?_eq_getElem hi) hs⟩
theorem CouAt.at_k (h : CouAt K a m G H W ks ss ls) {i : Nat} {k : Kp} (hk : ks[i]? = some k) : ∃ p, W.ka[i]? = some p ∧ KeeAt K a.cK H p i k := by
  have hi : i < W.ka.length := by rw [h.kees.1]; exact (List.getElem?_eq_some_iff.mp hk).1
  exact ⟨_, List.getElem?_eq_getElem hi, h.kees.2 i _ k (List.getElem?_eq_getElem hi) hk⟩
theorem CouAt.sq_of (h : CouAt K a m G H W ks ss ls) {i : Nat} {q : Lo} (hq : W.qa[i]? = some q) : ∃ s, ss[i]? = some s ∧ SqAt K a.cS m H q s := by
  have hi : i < ss.length := by rw [← h.qlen]; exact (List.getElem?_eq_some_iff.mp hq).1
  exact ⟨_, List.getElem?_eq_getElem hi, h.seqs i q _ hq (List.getElem?_eq_getElem hi)⟩
theorem CouAt.kp_of (h : CouAt K a m G H W ks ss ls) {i : Nat} {p : Addr} (hp : W.ka[i]? = some p) : ∃ k, ks[i]? = some k ∧ KeeAt K a.cK H p i k := by
  have hi : i < ks.length := by rw [← h.kees.1]; exact (List.getElem?_eq_some_iff.mp hp).1
  exact ⟨_, List.getElem?_eq_getElem hi, h.kees.2 i p _ hp (List.getElem?_eq_getElem hi)⟩
theorem ins_ne {p q C D x y : Addr} {fs gs : List (Str × V)} (h1 : H p = some (.ins C x fs)) (h2 : H q = some (.ins D y gs)) (n : fs.length ≠ gs.length) : p ≠ q := fun z => by
  rw [z, h2] at h1
  injection h1 with h1
  injection h1 with _ _ h1
  exact n (by rw [h1])
theorem CouAt.same (h : CouAt K a m G H W ks ss ls) (s : Same H H') : CouAt K a m G H' W ks ss ls := by
  obtain ⟨dx, h1⟩ := h.ob
  obtain ⟨lv, h2, h3⟩ := h.lls
  exact ⟨⟨dx, s _ _ h1⟩, s _ _ h.kls, s _ _ h.sls, ⟨lv, s _ _ h2, h3.at (Kept.of_same s)⟩, h.kees.same s, h.qlen, fun i q r e1 e2 => (h.seqs i q r e1 e2).same s, h.kn, h.qn, h.qo, h.ns,
    fun b hb => let ⟨⟨xs, e⟩, r⟩ := h.gd b hb; ⟨⟨xs, s _ _ e⟩, r⟩⟩
theorem CouAt.fr_same (h : CouAt K a m G H W ks ss ls) (s : Same H H') : Fr G H H' := ⟨fun b hb => by
  obtain ⟨⟨xs, e⟩, _⟩ := h.gd b hb
  rw [e]
  exact s _ _ e, Kept.of_same s⟩
/-- a keeper has changed -/
theorem CouAt.keep (h : CouAt K a m G H W ks ss ls) {i : Nat} {p : Addr} {k' : Kp} (hp : W.ka[i]? = some p) (hk : KeeAt K a.cK H' p i k') (b : But p H H') : CouAt K a m G H' W (ks.set i k') ss ls ∧ Fr G H H' := by
  obtain ⟨k, ek, dk, r, l, w, kp, _⟩ := h.kp_of hp
  have kk : Kept H H' := b.kept kp (fun z => z)
  obtain ⟨dx, h1⟩ := h.ob
  obtain ⟨lv, h2, h3⟩ := h.lls
  have lst : ∀ {c : Addr} {xs : List V}, H c = some (.lst xs) → H' c = some (.lst xs) := fun {c xs} e => b _ _ e (ne_of e kp (by intro z; cases z))
  refine ⟨⟨⟨dx, b _ _ h1 (ins_ne h1 kp (by show 3 ≠ 4; decide))⟩, lst h.kls, lst h.sls, ⟨lv, lst h2, h3.at kk⟩, ⟨by rw [List.length_set]; exact h.kees.1, fun j q k2 e1 e2 => ?_⟩, h.qlen, fun j q s e1 e2 => ?_, h.kn, h.qn, h.qo, h.ns,
    fun c hc => let ⟨⟨xs, e⟩, r⟩ := h.gd c hc; ⟨⟨xs, lst e⟩, r⟩⟩, fun c hc => ?_, kk⟩
  · by_cases e : j = i
    · subst e
      rw [hp] at e1
      cases e1
      rw [List.getElem?_set_self (by rw [← h.kees.1]; exact (List.getElem?_eq_some_iff.mp hp).1)] at e2
      cases e2
      exact hk
    · rw [List.getElem?_set_ne (fun z => e z.symm)] at e2
      refine (h.kees.2 j q k2 e1 e2).but (fun z => e ?_) b kk
      subst z
      exact (List.getElem?_inj (List.getElem?_eq_some_iff.mp e1).1 h.kn).mp (e1.trans hp.symm)
  · have SA := h.seqs j q s e1 e2
    obtain ⟨d2, kvs, xs, g1, g2, g3, g4, g5, g6⟩ := id SA
    refine SA.off (p := fun c => c = p) b kk (ins_ne g1 kp (by show 6 ≠ 4; decide)) (ne_of g2 kp (by intro z; cases z)) (ne_of g4 kp (by intro z; cases z)) (ne_of g6 kp (by intro z; cases z))
  · obtain ⟨⟨xs, e⟩, r⟩ := h.gd c hc
    rw [e]
    exact lst e
theorem KeeAt.off {C p : Addr} {i : Nat} {k : Kp} {P : Addr → Prop} (h : KeeAt K C H p i k) (b : ∀ c o, H c = some o → ¬ P c → H' c = some o) (kk : Kept H H') (n : ¬ P p) : KeeAt K C H' p i k := by
  obtain ⟨dx, r, l, w, h1, h2, h3, h4⟩ := h
  exact ⟨dx, r, l, w, b p _ h1 n, h2.at kk, h3.at kk, h4.at kk⟩
/-- a sequencer has changed; its row may stand elsewhere -/
theorem CouAt.seq (h : CouAt K a m G H W ks ss ls) {i : Nat} {q : Lo} {s' : Sq} {rl : Addr} (hq : W.qa[i]? = some q) (hs : SqAt K a.cS m H' { q with rl := rl } s') (hr : rl = q.rl ∨ H rl = none) (b : Off q H H') :
    CouAt K a m G H' { W with qa := W.qa.set i { q with rl := rl } } ks (ss.set i s') ls ∧ Fr G H H' := by
  obtain ⟨s, es, SA⟩ := h.sq_of hq
  have kk : Kept H H' := b.kept SA
  obtain ⟨dq, kvs, xs, p1, p2, p3, p4, p5, p6⟩ := id SA
  obtain ⟨dx, h1⟩ := h.ob
  obtain ⟨lv, h2, h3⟩ := h.lls
  have hil : i < W.qa.length := (List.getElem?_eq_some_iff.mp hq).1
  have lst : ∀ {c : Addr} {xs : List V}, H c = some (.lst xs) → H' c = some (.lst xs) := fun {c xs} e => b _ _ e (by
    rintro (z | z | z)
    · exact ne_of e p1 (by intro z; cases z) z
    · exact ne_of e p2 (by intro z; cases z) z
    · exact ne_of e p6 (by intro z; cases z) z)
  have ins : ∀ {c C x : Addr} {fs : List (Str × V)}, H c = some (.ins C x fs) → fs.length ≠ 6 → H' c = some (.ins C x fs) := fun {c C x fs} e n => b _ _ e (by
    rintro (z | z | z)
    · exact ins_ne e p1 n z
    · exact ne_of e p2 (by intro z; cases z) z
    · exact ne_of e p6 (by intro z; cases z) z)
  have get : ∀ {j : Nat} {r : Lo}, (W.qa.set i { q with rl := rl })[j]? = some r → (j = i ∧ r = { q with rl := rl }) ∨ (j ≠ i ∧ W.qa[j]? = some r) := fun {j r} e => by
    by_cases z : j = i
    · subst z
      rw [List.getElem?_set_self hil] at e
      cases e
      exact .inl ⟨rfl, rfl⟩
    · rw [List.getElem?_set_ne (fun y => z y.symm)] at e
      exact .inr ⟨z, e⟩
  -- the row's place is like no other list's
  have rne : ∀ {c : Addr} {ys : List V}, H c = some (.lst ys) → q.rl ≠ c → rl ≠ c := fun {c ys} e n => by
    rcases hr with z | z
    · rw [z]; exact n
    · exact (ne_of_none e z).symm
  have rn2 : ∀ {j : Nat} {r : Lo}, j ≠ i → W.qa[j]? = some r → rl ≠ r.rl := fun {j r} n e => by
    obtain ⟨_, _, SR⟩ := h.sq_of e
    obtain ⟨_, _, _, _, _, _, g4, _⟩ := SR
    exact rne g4 (h.qn i j q r (fun z => n z.symm) hq e).2.2.2.2
  have qm := h.qo q (List.mem_of_getElem? hq)
  refine ⟨⟨⟨dx, ins h1 (by show 3 ≠ 6; decide)⟩, lst h.kls, ?_, ⟨lv, lst h2, h3.at kk⟩, ⟨h.kees.1, fun j p k e1 e2 => ?_⟩, by rw [List.length_set, List.length_set]; exact h.qlen, fun j r t e1 e2 => ?_, h.kn, fun j l r t n e1 e2 => ?_, fun r hr' => ?_, h.ns, fun c hc => ?_⟩, fun c hc => ?_, kk⟩
  · show H' W.sl = some (.lst ((W.qa.set i { q with rl := rl }).map fun q => V.ref q.p))
    have e : (W.qa.set i { q with rl := rl }).map (fun q => V.ref q.p) = W.qa.map fun q => V.ref q.p := by
      refine List.ext_getElem? fun j => ?_
      rw [List.getElem?_map, List.getElem?_map]
      by_cases z : j = i
      · subst z
        rw [List.getElem?_set_self hil, hq]
        rfl
      · rw [List.getElem?_set_ne (fun y => z y.symm)]
    rw [e]
    exact lst h.sls
  · have KA := h.kees.2 j p k e1 e2
    obtain ⟨d2, r, l, w, g1, _⟩ := id KA
    exact KA.off b kk (by
      rintro (z | z | z)
      · exact ins_ne g1 p1 (by show 4 ≠ 6; decide) z
      · exact ne_of g1 p2 (by intro z; cases z) z
      · exact ne_of g1 p6 (by intro z; cases z) z)
  · rcases get e1 with ⟨rfl, rfl⟩ | ⟨z, e1⟩
    · rw [List.getElem?_set_self (by rw [← h.qlen]; exact hil)] at e2
      cases e2
      exact hs
    · rw [List.getElem?_set_ne (fun y => z y.symm)] at e2
      have SR := h.seqs j r t e1 e2
      obtain ⟨d2, kv2, xs2, g1, g2, g3, g4, g5, g6⟩ := id SR
      have n1 := h.qn j i r q z e1 hq
      have n2 := h.qn i j q r (fun y => z y.symm) hq e1
      refine SR.off b kk ?_ ?_ ?_ ?_
      · rintro (y | y | y)
        · exact n1.1 y
        · exact ne_of g1 p2 (by intro z; cases z) y
        · exact ne_of g1 p6 (by intro z; cases z) y
      · rintro (y | y | y)
        · exact ne_of g2 p1 (by intro z; cases z) y
        · exact n1.2.1 y
        · exact n1.2.2.1 y
      · rintro (y | y | y)
        · exact ne_of g4 p1 (by intro z; cases z) y
        · exact ne_of g4 p2 (by intro z; cases z) y
        · exact ne_of g4 p6 (by intro z; cases z) y
      · rintro (y | y | y)
        · exact ne_of g6 p1 (by intro z; cases z) y
        · exact n2.2.2.1 y.symm
        · exact n1.2.2.2.1 y
  · rcases get e1 with ⟨y1, y2⟩ | ⟨z1, w1⟩
    · rcases get e2 with ⟨y3, y4⟩ | ⟨z2, w2⟩
      · exact absurd (y1.trans y3.symm) n
      · subst y1 y2
        have := h.qn j l q t n hq w2
        exact ⟨this.1, this.2.1, this.2.2.1, this.2.2.2.1, rn2 z2 w2⟩
    · rcases get e2 with ⟨y3, y4⟩ | ⟨z2, w2⟩
      · subst y3 y4
        have := h.qn j l r q n w1 hq
        exact ⟨this.1, this.2.1, this.2.2.1, this.2.2.2.1, (rn2 z1 w1).symm⟩
      · exact h.qn j l r t n w1 w2
  · obtain ⟨j, hj⟩ := List.getElem?_of_mem hr'
    rcases get hj with ⟨rfl, rfl⟩ | ⟨z, e⟩
    · exact ⟨qm.1, rne h.kls qm.2.1, rne h.sls qm.2.2.1, rne h2 qm.2.2.2⟩
    · exact h.qo r (List.mem_of_getElem? e)
  · obtain ⟨⟨ys, e⟩, n1, n2, n3, n4⟩ := h.gd c hc
    refine ⟨⟨ys, lst e⟩, n1, n2, n3, fun r hr' => ?_⟩
    obtain ⟨j, hj⟩ := List.getElem?_of_mem hr'
    rcases get hj with ⟨rfl, rfl⟩ | ⟨z, e'⟩
    · exact (rne e (n4 q (List.mem_of_getElem? hq)).symm).symm
    · exact n4 r (List.mem_of_getElem? e')
  · obtain ⟨⟨xs, e⟩, r⟩ := h.gd c hc
    rw [e]
    exact lst e
/-- a row has grown -/
theorem CouAt.row (h : CouAt K a m G H W ks ss ls) {i : Nat} {q : Lo} {s' : Sq} (hq : W.qa[i]? = some q) (hs : SqAt K a.cS m H' q s') (b : But q.rl H H') : CouAt K a m G H' W ks (ss.set i s') ls ∧ Fr G H H' := by
  obtain ⟨s, es, SA⟩ := h.sq_of hq
  obtain ⟨dq, kvs, xs, p1, p2, p3, p4, p5, p6⟩ := id SA
  have kk : Kept H H' := b.kept p4 (fun z => z)
  obtain ⟨dx, h1⟩ := h.ob
  obtain ⟨lv, h2, h3⟩ := h.lls
  have hil : i < W.qa.length := (List.getElem?_eq_some_iff.mp hq).1
  have qm := h.qo q (List.mem_of_getElem? hq)
  refine ⟨⟨⟨dx, b _ _ h1 (ne_of h1 p4 (by intro z; cases z))⟩, b _ _ h.kls qm.2.1.symm, b _ _ h.sls qm.2.2.1.symm, ⟨lv, b _ _ h2 qm.2.2.2.symm, h3.at kk⟩, ⟨h.kees.1, fun j p k e1 e2 => ?_⟩, by rw [List.length_set]; exact h.qlen, fun j r t e1 e2 => ?_, h.kn, h.qn, h.qo, h.ns, fun c hc => ?_⟩, fun c hc => ?_, kk⟩
  · have KA := h.kees.2 j p k e1 e2
    obtain ⟨d2, r, l, w, g1, _⟩ := id KA
    exact KA.but (ne_of g1 p4 (by intro z; cases z)) b kk
  · by_cases z : j = i
    · subst z
      rw [hq] at e1
      cases e1
      rw [List.getElem?_set_self (by rw [← h.qlen]; exact hil)] at e2
      cases e2
      exact hs
    · rw [List.getElem?_set_ne (fun y => z y.symm)] at e2
      have SR := h.seqs j r t e1 e2
      obtain ⟨d2, kv2, xs2, g1, g2, g3, g4, g5, g6⟩ := id SR
      exact SR.off (p := fun c => c = q.rl) b kk (ne_of g1 p4 (by intro z; cases z)) (ne_of g2 p4 (by intro z; cases z)) (h.qn j i r q z e1 hq).2.2.2.2 (ne_of g6 p4 (by intro z; cases z))
  · obtain ⟨⟨ys, e⟩, n1, n2, n3, n4⟩ := h.gd c hc
    exact ⟨⟨ys, b _ _ e (n4 q (List.mem_of_getElem? hq))⟩, n1, n2, n3, n4⟩
  · obtain ⟨⟨ys, e⟩, n1, n2, n3, n4⟩ := h.gd c hc
    rw [e]
    exact b _ _ e (n4 q (List.mem_of_getElem? hq))
/-- the letters have changed -/
theorem CouAt.lets (h : CouAt K a m G H W ks ss ls) {lv : List V} {ls' : List Let} (hl : TpAll K H lv (ls'.map Let.d)) : CouAt K a m G (upd H W.ll (.lst lv)) W ks ss ls' ∧ Fr G H (upd H W.ll (.lst lv)) := by
  obtain ⟨dx, h1⟩ := h.ob
  obtain ⟨lv0, h2, h3⟩ := h.lls
  have kk := kept_upd (u := .lst lv) h2 (fun z => z)
  have b : But W.ll H (upd H W.ll (.lst lv)) := But.upd
  refine ⟨⟨⟨dx, b _ _ h1 (ne_of h1 h2 (by intro z; cases z))⟩, b _ _ h.kls h.ns.2.1, b _ _ h.sls h.ns.2.2, ⟨lv, upd_same, hl.at kk⟩, ⟨h.kees.1, fun j p k e1 e2 => ?_⟩, h.qlen, fun j r t e1 e2 => ?_, h.kn, h.qn, h.qo, h.ns, fun c hc => ?_⟩, fun c hc => ?_, kk⟩
  · have KA := h.kees.2 j p k e1 e2
    obtain ⟨d2, r, l, w, g1, _⟩ := id KA
    exact KA.but (ne_of g1 h2 (by intro z; cases z)) b kk
  · have SR := h.seqs j r t e1 e2
    obtain ⟨d2, kv2, xs2, g1, g2, g3, g4, g5, g6⟩ := id SR
    exact SR.off (p := fun c => c = W.ll) b kk (ne_of g1 h2 (by intro z; cases z)) (ne_of g2 h2 (by intro z; cases z)) (h.qo r (List.mem_of_getElem? e1)).2.2.2 (ne_of g6 h2 (by intro z; cases z))
  · obtain ⟨⟨ys, e⟩, n1, n2, n3, n4⟩ := h.gd c hc
    exact ⟨⟨ys, b _ _ e n3⟩, n1, n2, n3, n4⟩
  · obtain ⟨⟨ys, e⟩, n1, n2, n3, n4⟩ := h.gd c hc
    rw [e]
    exact b _ _ e n3
/-- one more sequencer -/
theorem CouAt.more (h : CouAt K a m G H W ks ss ls) {q : Lo} {s : Sq} {H1 : Hp} (sm : ∀ b o, H b = some o → H1 b = some o) (hs : SqAt K a.cS m H1 q s) (f1 : H q.p = none) (f2 : H q.rd = none) (f3 : H q.rl = none) (f4 : H q.td = none) (n : q.rd ≠ q.td) :
    CouAt K a m G (upd H1 W.sl (.lst ((W.qa.map fun q => V.ref q.p) ++ [V.ref q.p]))) { W with qa := W.qa ++ [q] } ks (ss ++ [s]) ls ∧ Fr G H (upd H1 W.sl (.lst ((W.qa.map fun q => V.ref q.p) ++ [V.ref q.p]))) := by
  have h0 := h
  replace h := h.same sm
  obtain ⟨dx, h1⟩ := h.ob
  obtain ⟨lv, h2, h3⟩ := h.lls
  have kk := kept_upd (u := .lst ((W.qa.map fun q => V.ref q.p) ++ [V.ref q.p])) h.sls (fun z => z)
  have b : But W.sl H1 (upd H1 W.sl (.lst ((W.qa.map fun q => V.ref q.p) ++ [V.ref q.p]))) := But.upd
  obtain ⟨dq, kvs, xs, p1, p2, p3, p4, p5, p6⟩ := id hs
  have get : ∀ {j : Nat} {r : Lo}, (W.qa ++ [q])[j]? = some r → (j = W.qa.length ∧ r = q) ∨ (j < W.qa.length ∧ W.qa[j]? = some r) := fun {j r} e => by
    by_cases z : j < W.qa.length
    · rw [List.getElem?_append_left z] at e
      exact .inr ⟨z, e⟩
    · have hl := (List.getElem?_eq_some_iff.mp e).1
      simp at hl
      have e' : j = W.qa.length := by omega
      subst e'
      simp at e
      exact .inl ⟨rfl, e.symm⟩
  have fresh : ∀ {j : Nat} {r : Lo}, W.qa[j]? = some r → q.p ≠ r.p ∧ q.rd ≠ r.rd ∧ q.rd ≠ r.td ∧ q.td ≠ r.td ∧ q.rl ≠ r.rl ∧ q.td ≠ r.rd := fun {j r} e => by
    obtain ⟨_, _, SR⟩ := h0.sq_of e
    obtain ⟨d2, kv2, xs2, g1, g2, g3, g4, g5, g6⟩ := SR
    exact ⟨(ne_of_none g1 f1).symm, (ne_of_none g2 f2).symm, (ne_of_none g6 f2).symm, (ne_of_none g6 f4).symm, (ne_of_none g4 f3).symm, (ne_of_none g2 f4).symm⟩
  obtain ⟨lv0, h20, _⟩ := h0.lls
  refine ⟨⟨⟨dx, b _ _ h1 (ne_of h1 h.sls (by intro z; cases z))⟩, b _ _ h.kls h.ns.1, ?_, ⟨lv, b _ _ h2 h.ns.2.2.symm, h3.at kk⟩, ⟨h.kees.1, fun j p k e1 e2 => ?_⟩, by rw [List.length_append, List.length_append, h.qlen]; rfl, fun j r t e1 e2 => ?_, h.kn, fun j l r t nn e1 e2 => ?_, fun r hr' => ?_, h.ns, fun c hc => ?_⟩, fun c hc => ?_, (Kept.of_same sm).trans kk⟩
  · show upd H1 W.sl _ W.sl = some (.lst ((W.qa ++ [q]).map fun q => V.ref q.p))
    rw [List.map_append]
    exact upd_same
  · have KA := h.kees.2 j p k e1 e2
    obtain ⟨d2, r, l, w, g1, _⟩ := id KA
    exact KA.but (ne_of g1 h.sls (by intro z; cases z)) b kk
  · have off : ∀ {r : Lo} {t : Sq}, SqAt K a.cS m H1 r t → r.rl ≠ W.sl → SqAt K a.cS m (upd H1 W.sl (.lst ((W.qa.map fun q => V.ref q.p) ++ [V.ref q.p]))) r t := fun {r t} SR n => by
      obtain ⟨d2, kv2, xs2, g1, g2, g3, g4, g5, g6⟩ := id SR
      exact SR.off (p := fun c => c = W.sl) b kk (ne_of g1 h.sls (by intro z; cases z)) (ne_of g2 h.sls (by intro z; cases z)) n (ne_of g6 h.sls (by intro z; cases z))
    rcases get e1 with ⟨rfl, rfl⟩ | ⟨z, e⟩
    · rw [h.qlen, List.getElem?_append_right (Nat.le_refl _), Nat.sub_self] at e2
      cases e2
      exact off hs (ne_of_none h0.sls f3).symm
    · rw [List.getElem?_append_left (by rw [← h.qlen]; exact z)] at e2
      exact off (h.seqs j r t e e2) (h.qo r (List.mem_of_getElem? e)).2.2.1
  · rcases get e1 with ⟨y1, y2⟩ | ⟨z1, w1⟩
    · rcases get e2 with ⟨y3, y4⟩ | ⟨z2, w2⟩
      · exact absurd (y1.trans y3.symm) nn
      · subst y2
        have := fresh w2
        exact ⟨this.1, this.2.1, this.2.2.1, this.2.2.2.1, this.2.2.2.2.1⟩
    · rcases get e2 with ⟨y3, y4⟩ | ⟨z2, w2⟩
      · subst y4
        have := fresh w1
        exact ⟨this.1.symm, this.2.1.symm, this.2.2.2.2.2.symm, this.2.2.2.1.symm, this.2.2.2.2.1.symm⟩
      · exact h.qn j l r t nn w1 w2
  · rcases List.mem_append.mp hr' with z | z
    · exact h.qo r z
    · rw [List.mem_singleton.mp z]
      exact ⟨n, (ne_of_none h0.kls f3).symm, (ne_of_none h0.sls f3).symm, (ne_of_none h20 f3).symm⟩
  · obtain ⟨⟨ys, e⟩, n1, n2, n3, n4⟩ := h0.gd c hc
    refine ⟨⟨ys, b _ _ (sm _ _ e) n2⟩, n1, n2, n3, fun r hr' => ?_⟩
    rcases List.mem_append.mp hr' with z | z
    · exact n4 r z
    · rw [List.mem_singleton.mp z]
      exact ne_of_none e f3
  · obtain ⟨⟨ys, e⟩, n1, n2, n3, n4⟩ := h0.gd c hc
    rw [e]
    exact b _ _ (sm _ _ e) n2
end
end K41
set_option Elab.async false
set_option linter.all false
set_option maxRecDepth 100000
set_option maxHeartbeats 4000000
/-! L41K: a council's defs but deliver and exchange. -/
namespace K41
open PySem PySem.Spec PyProof.Rows L2 StX

def spWhole : Sp := fun vs H Q _ => ∃ i lo hi : Int, vs = [.int i, .int lo, .int hi] ∧ Q (.bl (decide (lo ≤ i) && decide (i ≤ hi))) H
def kp0 : Kp := ⟨[], [], []⟩
def spCInit (K : PySem.W.Frag) (a : Ad) : Sp := fun vs H Q _ => ∃ (p dx : Addr) (m : Nat) (G : Addr → Prop), vs = [.ref p, .int (m : Nat)] ∧ H p = some (.ins a.cC dx []) ∧ m ≤ 10 ∧ (∀ b, G b → ∃ xs, H b = some (.lst xs)) ∧
  ∀ (W : Wd) (H' : Hp), W.c = p → CouAt K a m G H' W (List.replicate m kp0) [] [] → Fr G H H' → Q .non H'
def spBegin (K : PySem.W.Frag) (a : Ad) : Sp := fun vs H Q _ => ∃ (m : Nat) (G : Addr → Prop) (W : Wd) (ks : List Kp) (ss : List Sq) (ls : List Let) (e : Int), vs = [.ref W.c, .int e] ∧ CouAt K a m G H W ks ss ls ∧ ks.length = m ∧ m ≤ 10 ∧ 0 ≤ e ∧ e ≤ 999999999999 ∧
  (∀ s ∈ ss, s.ep ≠ e) ∧ ss.length ≤ 100 ∧ ∀ (W' : Wd) (H' : Hp), W'.c = W.c → CouAt K a m G H' W' ks (ss ++ [fresh m e]) ls → Fr G H H' → Q (.int (ss.length : Nat)) H'
def spCSend (K : PySem.W.Frag) (a : Ad) : Sp := fun vs H Q _ => ∃ (m : Nat) (G : Addr → Prop) (W : Wd) (ks : List Kp) (ss : List Sq) (ls : List Let) (j : Nat) (s : Sq), vs = [.ref W.c, .int (j : Nat)] ∧ CouAt K a m G H W ks ss ls ∧ m ≤ 10 ∧ ss[j]? = some s ∧ s.taken.length = m ∧ ls.length ≤ 1000000 ∧
  ∀ (H' : Hp), CouAt K a m G H' W ks ss (ls ++ s.toSend m) → Fr G H H' → Q .non H'
def spCFlush (K : PySem.W.Frag) (a : Ad) : Sp := fun vs H Q _ => ∃ (m : Nat) (G : Addr → Prop) (W : Wd) (ks : List Kp) (ss : List Sq) (ls : List Let) (j : Nat) (k : Kp), vs = [.ref W.c, .int (j : Nat)] ∧ CouAt K a m G H W ks ss ls ∧ ks[j]? = some k ∧ KB 100000 k ∧ ls.length ≤ 1000000 ∧
  ∀ (H' : Hp), CouAt K a m G H' W (ks.set j k.flush) ss (ls ++ k.wait) → Fr G H H' → Q .non H'
def spCSettled (K : PySem.W.Frag) (a : Ad) : Sp := fun vs H Q _ => ∃ (m : Nat) (G : Addr → Prop) (W : Wd) (ks : List Kp) (ss : List Sq) (ls : List Let), vs = [.ref W.c] ∧ CouAt K a m G H W ks ss ls ∧ Few ks ∧
  ∀ (t : V) (r : List Ent) (H' : Hp), Tp K H' t (.tuple (r.map Ent.d)) → SettledRow ks.length ks r → Same H H' → Q t H'

section
variable {P : Program} {w : World} {K : PySem.W.Frag} {mg : Str → Option Value} {base : Heap} {a : Ad}
theorem scWhole : FnScope ["thing", "low", "high"] ["thing", "low", "high"] (defScope sWhole) := ⟨rfl, rfl, rfl, by decide +kernel, rfl, by decide +kernel, by decide +kernel⟩
theorem g_whole (T : Txt P K mg a) : ∃ fd, FnOk P w K mg base CX0 1 a.whole fd ["thing", "low", "high"] spWhole ∧ Binds K fd ["thing", "low", "high"] [] := by
  obtain ⟨fd, F, b⟩ := T.whole
  refine ⟨fd, F.ok scWhole (fun vs H Q E h => ?_) (fun cdv A outer s H vs Q E hr h => ?_), b⟩
  · obtain ⟨i, lo, hi, rfl, _⟩ := h
    rfl
  · obtain ⟨i, lo, hi, rfl, q⟩ := h
    refine ⟨_, pss_one (ps_ret (pe_and (pe_callB call_isi rfl T.nIsi (by decide +kernel) (pa_cons (pv 0) (pa_cons (pe_bltn rfl T.nInt (by decide +kernel) (show RelV (.ty "int") (.type "int") from rfl)) pa_nil)))
      (pe_and (pe_not (pe_callB call_isi rfl T.nIsi (by decide +kernel) (pa_cons (pv 0) (pa_cons (pe_bltn rfl T.nBool (by decide +kernel) (show RelV (.ty "bool") (.type "bool") from rfl)) pa_nil))))
        (pe_one (pe_chain op_le op_le (pv 1) (pv 0) (pv 2)))))), ?_⟩
    refine ⟨_, rfl, _, _, .type "int", _, true, rfl, .ty "int", .base (.int i), kit_ty (by decide +kernel), _, rfl, ?_⟩
    refine iteT ?_
    refine ⟨_, rfl, _, _, .type "int", _, false, rfl, .ty "bool", .base (.int i), kit_ty (by decide +kernel), _, rfl, _, rfl, ?_⟩
    refine iteT ?_
    refine ⟨_, rfl, _, rfl, _, _, rfl, rfl, _, rfl, ?_⟩
    by_cases c : lo ≤ i
    · rw [decide_eq_true c] at q ⊢
      exact iteT ⟨_, rfl, _, _, rfl, rfl, q⟩
    · rw [decide_eq_false c] at q ⊢
      exact iteF q
theorem scCInit : FnScope ["self", "many", "number"] ["self", "many"] (defScope (sCou 0)) := ⟨rfl, rfl, rfl, by decide +kernel, rfl, by decide +kernel, by decide +kernel⟩
theorem g_cinit (T : Txt P K mg a) : ∃ fd, FnOk P w K mg base CX0 3 a.cInit fd ["self", "many"] (spCInit K a) ∧ Binds K fd ["self", "many"] [] := by
  obtain ⟨fd, F, b⟩ := T.cInit
  obtain ⟨fk, GK, bk⟩ := g_kinit (P := P) (w := w) (base := base) T
  refine ⟨fd, F.ok scCInit (fun vs H Q E h => ?_) (fun cdv A outer s H vs Q E hr h => ?_), b⟩
  · obtain ⟨p, dx, m, G, rfl, _⟩ := h
    rfl
  · obtain ⟨p, dx, m, G, rfl, hp, hm, hG, k⟩ := h
    refine ⟨_, pss_cons (ps_fld (pv 0) (pe_lc (own := [("number", 2)]) (g := gName 2) (te := tMake a.cK (spKInit K a.cK) [] E0 (tCons (tVar 2) tNil)) rfl scCInit.nd
          (pi_range1 rfl T.nRange (pa_cons (pv 1) pa_nil)) (blkOk_by (own := [("number", 2)]) (N := ["self", "many", "number"]) (sc := defScope (sCou 0)) (by decide +kernel)) (fun _ _ _ _ _ => pg_name (i := 2) scCInit.nd rfl (Or.inl rfl))
          (fun _ _ _ _ _ => pts_nil) (fun _ _ _ _ _ => by exact (pe_make T.mkK GK hr rfl T.gK bk .nil pass0 (pa_cons (pv 2) pa_nil)))) rfl)
      (pss_cons (ps_fld (pv 0) (pe_lst pa_nil) rfl) (pss_one (ps_fld (pv 0) (pe_lst pa_nil) rfl))), ?_⟩
    refine ⟨_, rfl, _, rfl, (by omega), (by omega), fun D hD => ?_⟩
    rw [Int.toNat_natCast]
    refine lc_range (fun i H' => ∃ as : List Addr, H' D = some (.lst (as.map V.ref)) ∧ as.length = i ∧ as.Nodup ∧ (∀ (j : Nat) x, as[j]? = some x → KeeAt K a.cK H' x j kp0) ∧ Same H H') ⟨[], upd_same, rfl, List.nodup_nil, fun j x h => by simp at h, same_new hD⟩ ?_ ?_
    · rintro i H' hi ⟨as, hD', hal, hnd, hk, s1⟩
      rw [Int.zero_add]
      refine ⟨rfl, tYes_ ?_⟩
      refine iteT ?_
      refine ⟨_, rfl, fun x dy hx hy hxy => ?_⟩
      refine ⟨x, dy, i, rfl, upd_same, fun H2 K2 b2 => ⟨rfl, ?_⟩⟩
      have s2 : Same H' (upd (upd H' dy (.own x)) x (.ins a.cK dy [])) := fun b o h => by
        rw [upd_ne (ne_of_none h hx), upd_ne (ne_of_none h hy)]
        exact h
      have s3 : Same H' H2 := fun b o h => b2 b o (s2 b o h) (ne_of_none h hx)
      have hD2 := s3 _ _ hD'
      have ku := kept_upd (u := .lst (as.map V.ref ++ [V.ref x])) hD2 (fun z => z)
      have nxD : x ≠ D := (ne_of_none hD' hx).symm
      refine ⟨as.map V.ref, hD2, by rw [List.length_map]; exact line_of (by omega), as ++ [x], ?_, by rw [List.length_append, hal]; rfl, ?_, fun j y hy => ?_, fun b o h => ?_⟩
      · rw [upd_same, List.map_append]
        rfl
      · refine List.nodup_append.mpr ⟨hnd, by simp, fun c hc d hd z => ?_⟩
        rw [List.mem_singleton.mp hd] at z
        obtain ⟨j, hj⟩ := List.getElem?_of_mem hc
        obtain ⟨_, _, _, _, g, _⟩ := hk j c hj
        exact ne_of_none g hx z
      · by_cases c : j < as.length
        · rw [List.getElem?_append_left c] at hy
          have KA := (hk j y hy).same s3
          obtain ⟨_, _, _, _, g, _⟩ := id KA
          exact KA.but (ne_of g hD2 (by intro z; cases z)) But.upd ku
        · have hl := (List.getElem?_eq_some_iff.mp hy).1
          simp at hl
          have e : j = i := by omega
          subst e
          rw [← hal, List.getElem?_append_right (Nat.le_refl _), Nat.sub_self] at hy
          cases hy
          exact K2.but nxD But.upd ku
      · rw [upd_ne (ne_of_none h hD)]
        exact s3 b o (s1 b o h)
    · rintro H1 ⟨as, hD1, hal, hnd, hk, s1⟩
      have npD : p ≠ D := ne_of_none hp hD
      refine ⟨_, rfl, p, _, dx, _, rfl, s1 _ _ hp, T.clC, T.nCk, (by show 0 < 1000; decide), ?_⟩
      have hz0 : ([] : List V).length ≤ sizeLine := by show 0 ≤ sizeLine; decide
      generalize hH2 : upd H1 p _ = H2
      have hp2 : H2 p = some (.ins a.cC dx [(("keepers" : Str), .ref D)]) := by
        rw [← hH2]
        exact upd_same
      have b1 : But p H1 H2 := by
        rw [← hH2]
        exact But.upd
      have k1 : Kept H1 H2 := by
        rw [← hH2]
        exact kept_upd (s1 _ _ hp) (fun z => z)
      clear hH2
      have hD2 := b1 _ _ hD1 npD.symm
      refine ⟨hz0, fun sl hsl => ?_⟩
      have s3 := same_new (o := .lst []) hsl
      have nps : p ≠ sl := ne_of_none hp2 hsl
      have nDs : D ≠ sl := ne_of_none hD2 hsl
      refine ⟨_, rfl, p, _, dx, _, rfl, s3 _ _ hp2, T.clC, T.nCs, (by show 1 < 1000; decide), ?_⟩
      generalize hH4 : upd (upd H2 sl (.lst [])) p _ = H4
      have hp4 : H4 p = some (.ins a.cC dx [(("keepers" : Str), .ref D), ("sequencers", .ref sl)]) := by
        rw [← hH4]
        exact upd_same
      have b3 : But p (upd H2 sl (.lst [])) H4 := by
        rw [← hH4]
        exact But.upd
      have k3 : Kept (upd H2 sl (.lst [])) H4 := by
        rw [← hH4]
        exact kept_upd (s3 _ _ hp2) (fun z => z)
      have hs4 : H4 sl = some (.lst []) := by
        rw [← hH4, upd_ne nps.symm]
        exact upd_same
      clear hH4
      have bb := (But.of_same (p := p) s1).trans (b1.trans ((But.of_same s3).trans b3))
      have kk4 := (Kept.of_same s1).trans (k1.trans ((Kept.of_same s3).trans k3))
      have hk4 : ∀ (j : Nat) x, as[j]? = some x → KeeAt K a.cK H4 x j kp0 := fun j x hx => by
        have KA := hk j x hx
        obtain ⟨_, _, _, _, g, _⟩ := id KA
        have n : x ≠ p := ins_ne g (s1 _ _ hp) (by show 4 ≠ 0; decide)
        exact ((KA.but n b1 k1).same s3).but n b3 k3
      have hD4 := b3 _ _ (s3 _ _ hD2) npD.symm
      refine ⟨hz0, fun ll hll => ?_⟩
      have s5 := same_new (o := .lst []) hll
      have npl : p ≠ ll := ne_of_none hp4 hll
      have nDl : D ≠ ll := ne_of_none hD4 hll
      have nsl : sl ≠ ll := ne_of_none hs4 hll
      refine ⟨_, rfl, p, _, dx, _, rfl, s5 _ _ hp4, T.clC, T.nCl, (by show 2 < 1000; decide), ?_⟩
      have k5 : Kept (upd H4 ll (.lst [])) (upd (upd H4 ll (.lst [])) p (.ins a.cC dx [(("keepers" : Str), .ref D), ("sequencers", .ref sl), ("letters", .ref ll)])) := kept_upd (s5 _ _ hp4) (fun z => z)
      have b5 : But p (upd H4 ll (.lst [])) (upd (upd H4 ll (.lst [])) p (.ins a.cC dx [(("keepers" : Str), .ref D), ("sequencers", .ref sl), ("letters", .ref ll)])) := But.upd
      have bf := bb.trans ((But.of_same s5).trans b5)
      have live : ∀ {b : Addr}, G b → b ≠ p ∧ b ≠ D ∧ b ≠ sl ∧ b ≠ ll ∧ ∃ xs, H b = some (.lst xs) := fun {b} hb => by
        obtain ⟨xs, e⟩ := hG b hb
        have n : b ≠ p := ne_of e hp (by intro z; cases z)
        exact ⟨n, ne_of_none e hD, ne_of_none (b1 _ _ (s1 _ _ e) n) hsl, ne_of_none (bb _ _ e n) hll, xs, e⟩
      refine k ⟨p, D, sl, ll, as, []⟩ (upd (upd H4 ll (.lst [])) p (.ins a.cC dx [(("keepers" : Str), .ref D), ("sequencers", .ref sl), ("letters", .ref ll)])) rfl
        ⟨⟨dx, upd_same⟩, b5 _ _ (s5 _ _ hD4) npD.symm, b5 _ _ (s5 _ _ hs4) nps.symm, ⟨[], ?_, .nil⟩, ⟨by rw [List.length_replicate]; exact hal, fun j x kp e1 e2 => ?_⟩, rfl, fun i q s e => by simp at e, hnd, fun i j q r n e => by simp at e, fun q hq => by simp at hq, ⟨nDs, nDl, nsl⟩,
          fun b hb => let ⟨n1, n2, n3, n4, xs, e⟩ := live hb; ⟨⟨xs, bf _ _ e n1⟩, n2, n3, n4, fun q hq => by simp at hq⟩⟩ ⟨fun b hb => ?_, kk4.trans ((Kept.of_same s5).trans k5)⟩
      · show upd (upd H4 ll (.lst [])) p _ ll = some (.lst [])
        rw [upd_ne npl.symm]
        exact upd_same
      · have KA := (hk4 j x e1).same s5
        obtain ⟨_, _, _, _, g, _⟩ := id KA
        have n : x ≠ p := ins_ne g (s5 _ _ hp4) (by show 4 ≠ 2; decide)
        have hj := (List.getElem?_eq_some_iff.mp e2).1
        rw [List.length_replicate] at hj
        rw [List.getElem?_replicate, if_pos hj] at e2
        cases e2
        exact KA.but n b5 k5
      · obtain ⟨n1, _, _, _, xs, e⟩ := live hb
        rw [e]
        exact bf _ _ e n1
theorem inV_int (e : Int) : ∀ l : List Int, inV (.int e) (l.map V.int) = decide (e ∈ l)
  | [] => by simp [inV]
  | x :: l => by
    have ih := inV_int e l
    unfold inV at ih ⊢
    rw [List.map_cons, List.any_cons, ih]
    by_cases c : x = e
    · subst c
      simp [eqV]
    · have c' : ¬ e = x := fun z => c z.symm
      simp [eqV, c, c']
theorem scBegin : FnScope ["self", "epoch", "one"] ["self", "epoch"] (defScope (sCou 1)) := ⟨rfl, rfl, rfl, by decide +kernel, rfl, by decide +kernel, by decide +kernel⟩
theorem g_begin (T : Txt P K mg a) : ∃ fd, FnOk P w K mg base CX0 3 a.cBegin fd ["self", "epoch"] (spBegin K a) ∧ Binds K fd ["self", "epoch"] [] := by
  obtain ⟨fd, F, b⟩ := T.cBegin
  obtain ⟨fw, GW, bw⟩ := g_whole (P := P) (w := w) (base := base) T
  obtain ⟨_, Fw, _⟩ := T.whole
  obtain ⟨fs, GS, bs⟩ := g_sinit (P := P) (w := w) (base := base) T
  obtain ⟨tM, eM⟩ := T.gMostE
  refine ⟨fd, F.ok scBegin (fun vs H Q E h => ?_) (fun cdv A outer s H vs Q E hr h => ?_), b⟩
  · obtain ⟨m, G, W, ks, ss, ls, e, rfl, _⟩ := h
    rfl
  · obtain ⟨m, G, W, ks, ss, ls, e, rfl, h, hkl, hm, he0, he1, hne, hsl, k⟩ := h
    have hr1 : Room 1 _ := hr.mono (by decide)
    refine ⟨_, pss_cons (ps_if (PW.pt (pw_or (pt_not (pt_val (pe_call GW hr1 rfl T.gWhole Fw.kp bw .nil pass0 (pa_cons (pv 1) (pa_cons pe_int (pa_cons (pe_glob (v := .int 999999999999) rfl eM ⟨tM, rfl⟩) pa_nil))))))
          (pw_or1 (pt_cmpR op_in_seq (pv 1) (pe_lc (own := [("one", 2)]) (g := gName 2) (te := tFld K (tVar 2) "epoch") rfl scBegin.nd (pi_list (pe_fld (pv 0) rfl))
            (blkOk_by (own := [("one", 2)]) (N := ["self", "epoch", "one"]) (sc := defScope (sCou 1)) (by decide +kernel)) (fun _ _ _ _ _ => pg_name (i := 2) scBegin.nd rfl (Or.inl rfl))
            (fun _ _ _ _ _ => pts_nil) (fun _ _ _ _ _ => by exact (pe_fld (pv 2) rfl))) (by with_unfolding_all rfl)))))
        (pss_one (ps_raiseBad (W := fun _ _ _ _ => False) rfl T.bad hr takes0 (by exact (pa_cons (pv 1) pa_nil)))) pss_nil)
      (pss_cons (ps_expr (pe_bm PySem.F.plainAttrs_list PySem.F.slot_list_append PySem.F.type_list_append mt_append (pe_fld (pv 0) rfl) (pa_cons (pe_make T.mkS GS hr rfl T.gS bs .nil pass0
          (pa_cons (pv 1) (pa_cons (pe_callB call_len_seq rfl T.nLen PySem.boot_len (pa_cons (pe_fld (pv 0) rfl) pa_nil)) pa_nil))) pa_nil)))
      (pss_one (ps_ret (pe_op op_sub (pe_callB call_len_seq rfl T.nLen PySem.boot_len (pa_cons (pe_fld (pv 0) rfl) pa_nil)) pe_int)))), ?_⟩
    obtain ⟨dx, hob⟩ := h.ob
    refine ⟨_, rfl, e, 0, 999999999999, rfl, _, rfl, ?_⟩
    rw [decide_eq_true he0, decide_eq_true he1]
    refine iteF ?_
    refine ⟨_, rfl, _, rfl, W.c, _, dx, _, _, rfl, hob, T.clC, T.nCs, rfl, W.sl, rfl, ⟨_, SqL.of h.sls⟩, fun D hD => ?_⟩
    refine lc_list (K := K) (a := W.sl) (xs := W.qa.map fun q => V.ref q.p) (fun i H' => H' D = some (.lst (((ss.take i).map (·.ep)).map V.int)) ∧ Same H H') ⟨upd_same, same_new hD⟩ (fun i H' _ s1 => s1.2.seq (SqL.of h.sls)) ?_ ?_
    · rintro i y H' hi ⟨hacc, s1⟩
      rw [List.getElem?_map] at hi
      obtain ⟨q, hq, rfl⟩ := Option.map_eq_some_iff.mp hi
      obtain ⟨sq, hs, SA⟩ := h.sq_of hq
      obtain ⟨dq, _, _, g1, _⟩ := SA.same s1
      refine ⟨rfl, tYes_ ?_⟩
      refine iteT ?_
      refine ⟨_, rfl, q.p, _, dq, _, _, rfl, g1, T.clS, T.nSe, rfl, _, hacc, ?_, ?_, fun b o h => ?_⟩
      · rw [List.length_map, List.length_map, List.length_take]
        exact line_of (by omega)
      · rw [upd_same, take_next hs, List.map_append, List.map_append]
        rfl
      · rw [upd_ne (ne_of_none h hD)]
        exact s1 b o h
    · rintro H1 ⟨hacc, s1⟩
      have hlen : (W.qa.map fun q => V.ref q.p).length = ss.length := by rw [List.length_map]; exact h.qlen
      rw [hlen, List.take_length] at hacc
      refine ⟨D, _, rfl, .inl (SqL.of hacc), rfl, ?_, _, rfl, ?_⟩
      · rw [List.all_map]
        exact List.all_eq_true.mpr fun _ _ => rfl
      have hin : inV (V.int e) ((ss.map (·.ep)).map V.int) = false := by
        rw [inV_int]
        refine decide_eq_false fun z => ?_
        obtain ⟨sq, h1, h2⟩ := List.mem_map.mp z
        exact hne sq h1 h2
      show (if inV (V.int e) ((ss.map (·.ep)).map V.int) = true then _ else _)
      rw [hin]
      refine iteF ?_
      have h1 := h.same s1
      refine ⟨_, rfl, W.c, _, dx, _, _, rfl, s1 _ _ hob, T.clC, T.nCs, rfl, .inl ⟨rfl, _, SqL.of h1.sls⟩, _, rfl, _, rfl, W.c, _, dx, _, _, rfl, s1 _ _ hob, T.clC, T.nCk, rfl, W.kl, _, rfl, .inl (SqL.of h1.kls), fun x dy hx hy hxy => ?_⟩
      refine ⟨x, dy, e, m, ?_, upd_same, hm, fun q H2 eq SA f2 f3 f4 nn b2 => ⟨rfl, ?_⟩⟩
      · show [V.ref x, V.int e, V.int ((W.ka.map V.ref).length : Nat)] = _
        rw [List.length_map, h.kees.1, hkl]
      subst eq
      have s2 : Same H1 (upd (upd H1 dy (.own q.p)) q.p (.ins a.cS dy [])) := fun b o h => by
        rw [upd_ne (ne_of_none h hx), upd_ne (ne_of_none h hy)]
        exact h
      have s3 : Same H1 H2 := fun b o h => b2 b o (s2 b o h) (ne_of_none h hx)
      obtain ⟨c1, fr⟩ := h1.more s3 SA hx (s2.free f2) (s2.free f3) (s2.free f4) nn
      refine ⟨W.sl, _, _, rfl, rfl, s3 _ _ h1.sls, line_of (by rw [hlen]; omega), ?_⟩
      obtain ⟨dx2, hob2⟩ := c1.ob
      refine ⟨_, rfl, W.c, _, dx2, _, _, rfl, hob2, T.clC, T.nCs, rfl, W.sl, _, rfl, .inl (SqL.of upd_same), _, _, rfl, rfl, ?_⟩
      have el : ((((W.qa.map fun q => V.ref q.p) ++ [V.ref q.p]).length : Nat) : Int) - 1 = ((ss.length : Nat) : Int) := by
        rw [List.length_append, hlen]
        show (((ss.length + 1 : Nat)) : Int) - 1 = _
        omega
      show Q (.int (((((W.qa.map fun q => V.ref q.p) ++ [V.ref q.p]).length : Nat) : Int) - 1)) _
      rw [el]
      exact k { W with qa := W.qa ++ [q] } _ rfl c1 ((h.fr_same s1).trans fr)
theorem scCSend : FnScope ["self", "number"] ["self", "number"] (defScope (sCou 2)) := ⟨rfl, rfl, rfl, by decide +kernel, rfl, by decide +kernel, by decide +kernel⟩
theorem g_csend (T : Txt P K mg a) : ∃ fd, FnOk P w K mg base CX0 2 a.cSend fd ["self", "number"] (spCSend K a) ∧ Binds K fd ["self", "number"] [] := by
  obtain ⟨fd, F, b⟩ := T.cSend
  obtain ⟨fs, GS, bs⟩ := g_ssend (P := P) (w := w) (base := base) T
  refine ⟨fd, F.ok scCSend (fun vs H Q E h => ?_) (fun cdv A outer s H vs Q E hr h => ?_), b⟩
  · obtain ⟨m, G, W, ks, ss, ls, j, sq, rfl, _⟩ := h
    rfl
  · obtain ⟨m, G, W, ks, ss, ls, j, sq, rfl, h, hm, hj, htl, hll, k⟩ := h
    refine ⟨_, pss_one (ps_expr (pe_bm PySem.F.plainAttrs_list PySem.F.slot_list_extend PySem.F.type_list_extend mt_extend (pe_fld (pv 0) rfl) (pa_cons (pe_callTy call_list_of rfl T.nList (by decide +kernel) (pa_cons
        (pe_meth0 (pe_ix ix_list (pe_fld (pv 0) rfl) (pv 1) (fun _ _ => rfl)) T.clS T.mSend GS hr bs .nil pass0) pa_nil)) pa_nil))), ?_⟩
    obtain ⟨dx, hob⟩ := h.ob
    obtain ⟨lv, hl, tl⟩ := h.lls
    obtain ⟨q, hq, SA⟩ := h.at_q hj
    obtain ⟨dq, _, _, g1, _⟩ := id SA
    refine ⟨_, rfl, W.c, _, dx, _, _, rfl, hob, T.clC, T.nCl, rfl, .inl ⟨rfl, _, SqL.of hl⟩, _, rfl, W.c, _, dx, _, _, rfl, hob, T.clC, T.nCs, rfl, _, rfl, W.sl, _, _, V.ref q.p, rfl, rfl, SqL.of h.sls, atI_nat ?_, q.p, dq, _, rfl, g1, rfl, ?_⟩
    · rw [List.getElem?_map, hq]
      rfl
    refine ⟨m, q, sq, rfl, SA, hm, htl, fun t H1 tt s1 => ?_⟩
    obtain ⟨ta, ys, rfl, hs, hy⟩ := tp_tup tt
    have hyl := hy.len
    rw [List.length_map] at hyl
    have hsl := send_len m sq
    refine ⟨ta, ys, rfl, .inr hs, fun f hf => ?_⟩
    have s2 := same_new (o := .lst ys) hf
    have h2 := (h.same s1).same s2
    have hlv := tl.len
    rw [List.length_map] at hlv
    refine ⟨W.ll, f, lv, ys, rfl, rfl, s2 _ _ (s1 _ _ hl), upd_same, ?_, ?_⟩
    · rw [sizeLine_eq]
      omega
    have kk := Kept.of_same (s1.trans s2)
    obtain ⟨c, fr⟩ := h2.lets (lv := lv ++ ys) (ls' := ls ++ sq.toSend m) (by
      rw [List.map_append]
      exact (tl.at kk).app (hy.at (Kept.of_same s2)))
    exact k _ c ((h.fr_same (s1.trans s2)).trans fr)
theorem scCFlush : FnScope ["self", "number"] ["self", "number"] (defScope (sCou 5)) := ⟨rfl, rfl, rfl, by decide +kernel, rfl, by decide +kernel, by decide +kernel⟩
theorem g_cflush (T : Txt P K mg a) : ∃ fd, FnOk P w K mg base CX0 2 a.cFlush fd ["self", "number"] (spCFlush K a) ∧ Binds K fd ["self", "number"] [] := by
  obtain ⟨fd, F, b⟩ := T.cFlush
  obtain ⟨fs, GS, bs⟩ := g_kflush (P := P) (w := w) (base := base) T
  refine ⟨fd, F.ok scCFlush (fun vs H Q E h => ?_) (fun cdv A outer s H vs Q E hr h => ?_), b⟩
  · obtain ⟨m, G, W, ks, ss, ls, j, kp, rfl, _⟩ := h
    rfl
  · obtain ⟨m, G, W, ks, ss, ls, j, kp, rfl, h, hj, B, hll, k⟩ := h
    refine ⟨_, pss_one (ps_expr (pe_bm PySem.F.plainAttrs_list PySem.F.slot_list_extend PySem.F.type_list_extend mt_extend (pe_fld (pv 0) rfl) (pa_cons (pe_callTy call_list_of rfl T.nList (by decide +kernel) (pa_cons
        (pe_meth0 (pe_ix ix_list (pe_fld (pv 0) rfl) (pv 1) (fun _ _ => rfl)) T.clK T.mKFlush GS hr bs .nil pass0) pa_nil)) pa_nil))), ?_⟩
    obtain ⟨dx, hob⟩ := h.ob
    obtain ⟨lv, hl, tl⟩ := h.lls
    obtain ⟨p, hp, KA⟩ := h.at_k hj
    obtain ⟨dq, _, _, _, g1, _⟩ := id KA
    have hwait := B.wait
    refine ⟨_, rfl, W.c, _, dx, _, _, rfl, hob, T.clC, T.nCl, rfl, .inl ⟨rfl, _, SqL.of hl⟩, _, rfl, W.c, _, dx, _, _, rfl, hob, T.clC, T.nCk, rfl, _, rfl, W.kl, _, _, V.ref p, rfl, rfl, SqL.of h.kls, atI_nat ?_, p, dq, _, rfl, g1, rfl, ?_⟩
    · rw [List.getElem?_map, hp]
      rfl
    refine ⟨p, j, kp, rfl, KA, B, fun t H1 K1 tt b1 => ?_⟩
    obtain ⟨h1, fr1⟩ := h.keep hp K1 b1
    obtain ⟨ta, ys, rfl, hs, hy⟩ := tp_tup tt
    have hyl := hy.len
    rw [List.length_map] at hyl
    refine ⟨ta, ys, rfl, .inr hs, fun f hf => ?_⟩
    have s2 := same_new (o := .lst ys) hf
    have h2 := h1.same s2
    have hlv := tl.len
    rw [List.length_map] at hlv
    have hl1 := b1 _ _ hl (ne_of hl g1 (by intro z; cases z))
    refine ⟨W.ll, f, lv, ys, rfl, rfl, s2 _ _ hl1, upd_same, ?_, ?_⟩
    · rw [sizeLine_eq]
      omega
    obtain ⟨c, fr⟩ := h2.lets (lv := lv ++ ys) (ls' := ls ++ kp.wait) (by
      rw [List.map_append]
      exact ((tl.at fr1.2).at (Kept.of_same s2)).app (hy.at (Kept.of_same s2)))
    exact k _ c (fr1.trans ((h1.fr_same s2).trans fr))
theorem scCSettled : FnScope ["self"] ["self"] (defScope (sCou 9)) := ⟨rfl, rfl, rfl, by decide +kernel, rfl, by decide +kernel, by decide +kernel⟩
theorem g_csettled (T : Txt P K mg a) : ∃ fd, FnOk P w K mg base CX0 4 a.cSettled fd ["self"] (spCSettled K a) ∧ Binds K fd ["self"] [] := by
  obtain ⟨fd, F, b⟩ := T.cSettled
  obtain ⟨fs, GS, bs⟩ := g_setRow (P := P) (w := w) (base := base) T
  obtain ⟨_, Fs, _⟩ := T.setRow
  refine ⟨fd, F.ok scCSettled (fun vs H Q E h => ?_) (fun cdv A outer s H vs Q E hr h => ?_), b⟩
  · obtain ⟨m, G, W, ks, ss, ls, rfl, _⟩ := h
    rfl
  · obtain ⟨m, G, W, ks, ss, ls, rfl, h, few, k⟩ := h
    refine ⟨_, pss_one (ps_ret (pe_call GS hr rfl T.gSetRow Fs.kp bs .nil pass0 (pa_cons (pe_fld (pv 0) rfl) pa_nil))), ?_⟩
    obtain ⟨dx, hob⟩ := h.ob
    exact ⟨_, rfl, W.c, _, dx, _, _, rfl, hob, T.clC, T.nCk, rfl, W.kl, W.ka, ks, rfl, SqL.of h.kls, h.kees, few, fun t r H' tt sr s1 => k t r H' tt sr s1⟩
end
end K41
set_option Elab.async false
set_option linter.all false
set_option maxRecDepth 100000
set_option maxHeartbeats 4000000
/-! L41L: letters come; exchanges. -/
namespace K41
open PySem PySem.Spec PyProof.Rows L2 StX

def Let.tag : Let → Str
  | .ask _ _ => "ask"
  | .write _ _ _ _ => "write"
  | .refused _ _ _ => "refused"
  | .told _ _ _ => "told"
  | .taken _ _ _ => "taken"
theorem let_tup {K : PySem.W.Frag} {H : Hp} {x : V} {L : Let} (h : Tp K H x L.d) : ∃ t xs, x = .ref t ∧ SqT K H t xs ∧ xs[0]? = some (V.str L.tag) ∧ xs[2]? = some (V.int (L.num : Nat)) := by
  cases L with
  | ask e n =>
    obtain ⟨t, x0, x1, x2, rfl, hs, h0, h1, h2⟩ := tp3 h
    cases tp_str h0
    cases tp_int h2
    exact ⟨t, _, rfl, hs, rfl, rfl⟩
  | write e n p y =>
    obtain ⟨t, x0, x1, x2, x3, x4, rfl, hs, h0, h1, h2, h3, h4⟩ := tp5 h
    cases tp_str h0
    cases tp_int h2
    exact ⟨t, _, rfl, hs, rfl, rfl⟩
  | refused e n p =>
    obtain ⟨t, x0, x1, x2, x3, rfl, hs, h0, h1, h2, h3⟩ := tp4 h
    cases tp_str h0
    cases tp_int h2
    exact ⟨t, _, rfl, hs, rfl, rfl⟩
  | told e n p =>
    obtain ⟨t, x0, x1, x2, x3, rfl, hs, h0, h1, h2, h3⟩ := tp4 h
    cases tp_str h0
    cases tp_int h2
    exact ⟨t, _, rfl, hs, rfl, rfl⟩
  | taken e n p =>
    obtain ⟨t, x0, x1, x2, x3, rfl, hs, h0, h1, h2, h3⟩ := tp4 h
    cases tp_str h0
    cases tp_int h2
    exact ⟨t, _, rfl, hs, rfl, rfl⟩
theorem tag_down (L : Let) : inV (.str L.tag) [.str "ask", .str "write"] = L.down := by
  cases L with
  | ask e n => exact (by decide +kernel : inV (V.str "ask") [.str "ask", .str "write"] = true)
  | write e n p x => exact (by decide +kernel : inV (V.str "write") [.str "ask", .str "write"] = true)
  | refused e n p => exact (by decide +kernel : inV (V.str "refused") [.str "ask", .str "write"] = false)
  | told e n p => exact (by decide +kernel : inV (V.str "told") [.str "ask", .str "write"] = false)
  | taken e n p => exact (by decide +kernel : inV (V.str "taken") [.str "ask", .str "write"] = false)

/-- the first i have heard it -/
def hd (m : Nat) (l : Let) (ss : List Sq) (i : Nat) : List Sq := (ss.take i).map (fun s => s.hear m l) ++ ss.drop i
theorem hd_zero (m : Nat) (l : Let) (ss : List Sq) : hd m l ss 0 = ss := rfl
theorem hd_all (m : Nat) (l : Let) (ss : List Sq) : hd m l ss ss.length = ss.map fun s => s.hear m l := by
  unfold hd
  rw [List.take_length, List.drop_length, List.append_nil]
theorem hd_at (m : Nat) (l : Let) {ss : List Sq} {i : Nat} {s : Sq} (h : ss[i]? = some s) : (hd m l ss i)[i]? = some s := by
  have hi := (List.getElem?_eq_some_iff.mp h).1
  have e : ((ss.take i).map (fun s => s.hear m l)).length = i := by rw [List.length_map, List.length_take]; omega
  unfold hd
  rw [List.getElem?_append_right (by omega), e, Nat.sub_self, List.getElem?_drop, Nat.add_zero]
  exact h
theorem hd_next (m : Nat) (l : Let) {ss : List Sq} {i : Nat} {s : Sq} (h : ss[i]? = some s) : (hd m l ss i).set i (s.hear m l) = hd m l ss (i + 1) := by
  have hi := (List.getElem?_eq_some_iff.mp h).1
  have e : ((ss.take i).map (fun s => s.hear m l)).length = i := by rw [List.length_map, List.length_take]; omega
  unfold hd
  rw [List.set_append_right i _ (by omega), e, Nat.sub_self, take_next h, List.map_append, List.append_assoc]
  congr 1
  have ed : ss.drop i = s :: ss.drop (i + 1) := by
    rw [List.drop_eq_getElem_cons hi]
    congr 1
    exact (List.getElem?_eq_some_iff.mp h).2
  rw [ed]
  rfl
/-- what a letter must be to be heard by all -/
structure HearOk (m : Nat) (ss : List Sq) (l : Let) : Prop where
  num : l.num < m
  small : l.small 100000
  many : m ≤ 10
  sq : ∀ s ∈ ss, s.taken.length = m ∧ (s.rows.map (·.1)).Nodup ∧ (∀ z ∈ s.rows, z.1 < m) ∧ SB 100000 s
theorem HearOk.of {m : Nat} {ks : List Kp} {ss : List Sq} {ls ls' : List Let} {l : Let} (I : Inv m ks ss ls) (B : Bd 100000 ks ss ls') (hl : l.num < m) (hs : l.small 100000) (hm : m ≤ 10) : HearOk m ss l :=
  ⟨hl, hs, hm, fun s h => ⟨(I.sq s h).tlen, (I.sq s h).keys, fun z hz => ((I.sq s h).told z.1 z.2 hz).1, B.sq s h⟩⟩

section
variable {K : PySem.W.Frag} {a : Ad} {m : Nat} {G : Addr → Prop} {H : Hp} {W : Wd} {ks : List Kp} {ss : List Sq} {ls : List Let}
/-- for sequencer in self.sequencers: sequencer.hear(letter), the names in the slots 0, v, l -/
def tHearAll (K : PySem.W.Frag) (a : Ad) (v l : Nat) : TS := tFor (iList K (tFld K (tVar 0) "sequencers")) (gName v) (tDrop (tMeth a.cS "hear" (spHear K a.cS) [] E0 (tVar v) (tCons (tVar l) tNil)))
theorem hear_all {P : Program} {mg : Str → Option Value} (T : Txt P K mg a) {v l : Nat} {σ : L2.St} {D : Ends} {y : V} {L : Let} (h0 : σ[0]? = some (some (.ref W.c))) (hl : σ[l]? = some (some y)) (hv : v < σ.length) (n0 : v ≠ 0) (n1 : v ≠ l) (ty : Tp K H y L.d)
    (h : CouAt K a m G H W ks ss ls) (ok : HearOk m ss L)
    (k : ∀ (u : Option V) (W' : Wd) (H' : Hp), W'.c = W.c → (W'.qa.map fun q => V.ref q.p) = (W.qa.map fun q => V.ref q.p) → CouAt K a m G H' W' ks (ss.map fun s => s.hear m L) ls → Fr G H H' → D.nx (σ.set v u) H') : tHearAll K a v l D σ H := by
  obtain ⟨dx, hob⟩ := h.ob
  refine ⟨_, h0, W.c, _, dx, _, _, rfl, hob, T.clC, T.nCs, rfl, W.sl, rfl, ⟨_, SqL.of h.sls⟩, ?_⟩
  refine for_list (K := K) (a := W.sl) (xs := W.qa.map fun q => V.ref q.p) (fun i σ' H' => ∃ (u : Option V) (W' : Wd), σ' = σ.set v u ∧ W'.c = W.c ∧ W'.sl = W.sl ∧ (W'.qa.map fun q => V.ref q.p) = (W.qa.map fun q => V.ref q.p) ∧ CouAt K a m G H' W' ks (hd m L ss i) ls ∧ Fr G H H') ?_ ?_ ?_ ?_
  · refine ⟨σ[v], W, ?_, rfl, rfl, rfl, h, Fr.refl _ _⟩
    rw [List.set_getElem_self]
  · rintro i σ' H' _ ⟨u, W', rfl, e1, e2, e3, c, fr⟩
    have := c.sls
    rw [e2, e3] at this
    exact SqL.of this
  · rintro i x σ' H' hi ⟨u, W', rfl, e1, e2, e3, c, fr⟩
    rw [← e3, List.getElem?_map] at hi
    obtain ⟨q, hq, rfl⟩ := Option.map_eq_some_iff.mp hi
    have hil : i < ss.length := by
      have := (List.getElem?_eq_some_iff.mp hq).1
      have e := congrArg List.length e3
      rw [List.length_map, List.length_map, h.qlen] at e
      omega
    have hs : ss[i]? = some ss[i] := List.getElem?_eq_getElem hil
    have SA := c.seqs i q _ hq (hd_at m L hs)
    obtain ⟨dq, _, _, g1, _⟩ := id SA
    obtain ⟨o1, o2, o3, o4⟩ := ok.sq _ (List.getElem_mem hil)
    show (tDrop _) _ ((σ.set v u).set v (some (.ref q.p))) H'
    rw [List.set_set]
    refine ⟨_, List.getElem?_set_self hv, q.p, dq, _, rfl, g1, rfl, _, (by rw [List.getElem?_set_ne n1]; exact hl), m, q, ss[i], y, L, rfl, SA, ty.at fr.2, ok.num, (c.qo q (List.mem_of_getElem? hq)).1, ok.many, o1, o2, o3, o4, ok.small, fun rl H2 S2 hr off => ?_⟩
    obtain ⟨c2, fr2⟩ := c.seq hq S2 hr off
    rw [hd_next m L hs] at c2
    refine ⟨_, { W' with qa := W'.qa.set i { q with rl := rl } }, rfl, e1, e2, ?_, c2, fr.trans fr2⟩
    show ((W'.qa.set i { q with rl := rl }).map fun q => V.ref q.p) = _
    rw [← e3]
    refine List.ext_getElem? fun j => ?_
    rw [List.getElem?_map, List.getElem?_map]
    by_cases z : j = i
    · subst z
      rw [List.getElem?_set_self (List.getElem?_eq_some_iff.mp hq).1, hq]
      rfl
    · rw [List.getElem?_set_ne (fun y => z y.symm)]
  · rintro σ' H' ⟨u, W', rfl, e1, e2, e3, c, fr⟩
    rw [List.length_map, h.qlen, hd_all] at c
    exact k u W' H' e1 e3 c fr
end
theorem TpAll.erase {K : PySem.W.Frag} {H : Hp} : ∀ {vs : List V} {ls : List Let} (n : Nat), TpAll K H vs (ls.map Let.d) → TpAll K H (vs.eraseIdx n) ((ls.eraseIdx n).map Let.d)
  | _, [], n, h => by
    cases h
    simp
    exact .nil
  | _, l :: ls, 0, h => by
    obtain ⟨v, r, rfl, h1, h2⟩ := tp_cons h
    exact h2
  | _, l :: ls, n + 1, h => by
    obtain ⟨v, r, rfl, h1, h2⟩ := tp_cons h
    exact .cons h1 (TpAll.erase n h2)
def spDeliver (K : PySem.W.Frag) (a : Ad) : Sp := fun vs H Q _ => ∃ (m : Nat) (G : Addr → Prop) (W : Wd) (ks : List Kp) (ss : List Sq) (ls : List Let) (j : Nat) (kept : Bool) (L : Let), vs = [.ref W.c, .int (j : Nat), .bl kept] ∧ CouAt K a m G H W ks ss ls ∧
  Inv m ks ss ls ∧ Bd 100000 ks ss ls ∧ m ≤ 10 ∧ ls.length ≤ 7000000 ∧ ls[j]? = some L ∧
  ∀ (W' : Wd) (H' : Hp), W'.c = W.c → CouAt K a m G H' W' (if L.down = true then onK ks L.num (fun k => k.handle L.num L) else ks) (if L.down = true then ss else ss.map fun s => s.hear m L) (if kept = true then ls else ls.eraseIdx j) → Fr G H H' → Q .non H'

section
variable {P : Program} {w : World} {K : PySem.W.Frag} {mg : Str → Option Value} {base : Heap} {a : Ad}
theorem scDeliver : FnScope ["self", "at", "is_kept", "letter", "sequencer"] ["self", "at", "is_kept"] (defScope (sCou 3)) := ⟨rfl, rfl, rfl, by decide +kernel, rfl, by decide +kernel, by decide +kernel⟩
theorem g_deliver (T : Txt P K mg a) : ∃ fd, FnOk P w K mg base CX0 6 a.cDeliver fd ["self", "at", "is_kept"] (spDeliver K a) ∧ Binds K fd ["self", "at", "is_kept"] [] := by
  obtain ⟨fd, F, b⟩ := T.cDeliver
  obtain ⟨fw, GW, bw⟩ := g_whole (P := P) (w := w) (base := base) T
  obtain ⟨_, Fw, _⟩ := T.whole
  obtain ⟨fk, GK, bk⟩ := g_handle (P := P) (w := w) (base := base) T
  obtain ⟨fs, GS, bs⟩ := g_hear (P := P) (w := w) (base := base) T
  refine ⟨fd, F.ok scDeliver (fun vs H Q E h => ?_) (fun cdv A outer s H vs Q E hr h => ?_), b⟩
  · obtain ⟨m, G, W, ks, ss, ls, j, kept, L, rfl, _⟩ := h
    rfl
  · obtain ⟨m, G, W, ks, ss, ls, j, kept, L, rfl, h, I, B, hm, hll, hL, k⟩ := h
    have hr1 : Room 1 _ := hr.mono (by decide)
    have hr2 : Room 2 _ := hr.mono (by decide)
    refine ⟨_, pss_cons (ps_if (pt_not (pt_val (pe_call GW hr1 rfl T.gWhole Fw.kp bw .nil pass0 (pa_cons (pv 1) (pa_cons pe_int (pa_cons (pe_op op_sub (pe_callB call_len_seq rfl T.nLen PySem.boot_len (pa_cons (pe_fld (pv 0) rfl) pa_nil)) pe_int) pa_nil))))))
        (pss_one (ps_raiseBad (W := fun _ _ _ _ => False) rfl T.bad hr takes0 (by exact (pa_cons (pv 1) pa_nil)))) pss_nil)
      (pss_cons (ps_set (i := 3) scDeliver.nd rfl (Or.inl rfl) (pe_ix ix_list (pe_fld (pv 0) rfl) (pv 1) (fun _ _ => rfl)))
      (pss_cons (ps_if (pt_not (pt_val (pv 2))) (pss_one (ps_expr (pe_bm PySem.F.plainAttrs_list PySem.F.slot_list_pop PySem.F.type_list_pop mt_popAt (pe_fld (pv 0) rfl) (pa_cons (pv 1) pa_nil)))) pss_nil)
      (pss_one (ps_if (pt_cmpR op_in_seq (pe_ix ix_tup (pv 3) pe_int (fun _ _ => rfl)) (pe_tup (pa_cons pe_str (pa_cons pe_str pa_nil))) (by with_unfolding_all rfl))
        (pss_one (ps_expr (pe_meth (pe_ix ix_list (pe_fld (pv 0) rfl) (pe_ix ix_tup (pv 3) pe_int (fun _ _ => rfl)) (fun _ _ => rfl)) T.clK T.mHandle GK hr bk .nil pass0 (pa_cons (pv 3) pa_nil))))
        (pss_one (ps_for PassesOwn.never rfl (pi_list (pe_fld (pv 0) rfl)) (pg_name (i := 4) scDeliver.nd rfl (Or.inl rfl)) (pss_one (ps_expr (pe_meth (pv 4) T.clS T.mHear GS hr2 bs .nil pass0 (pa_cons (pv 3) pa_nil)))))))))), ?_⟩
    obtain ⟨dx, hob⟩ := h.ob
    obtain ⟨lv, hl, tl⟩ := h.lls
    have hlv := tl.len
    rw [List.length_map] at hlv
    have hjl : j < ls.length := (List.getElem?_eq_some_iff.mp hL).1
    obtain ⟨x, hx, tx⟩ := tl.get (i := j) (d := L.d) (by rw [List.getElem?_map, hL]; rfl)
    have LO := I.letters L (List.mem_of_getElem? hL)
    have hnum := LO.lt
    -- what follows
    have rest : ∀ (H1 : Hp), CouAt K a m G H1 W ks ss (if kept = true then ls else ls.eraseIdx j) → Fr G H H1 →
        (tIfS (tTest (tOp (rIn K false) (tOp (rIxT K) (tVar 3) (tC (.int 0))) (tTup (tCons (tC (.str "ask")) (tCons (tC (.str "write")) tNil)))))
          (tDrop (tMeth a.cK "handle" (spHandle K a) [] E0 (tOp (rIxL K) (tFld K (tVar 0) "keepers") (tOp (rIxT K) (tVar 3) (tC (.int 2)))) (tCons (tVar 3) tNil))) (tHearAll K a 4 3))
          { nx := fun _ H' => Q .non H', rt := Q } [some (.ref W.c), some (.int (j : Nat)), some (.bl kept), some x, none] H1 := by
      intro H1 c fr
      have tx1 := tx.at fr.2
      obtain ⟨t, xs, rfl, hs, e0, e2⟩ := let_tup tx1
      refine ⟨_, rfl, t, _, 0, _, rfl, rfl, hs, at_of (j := 0) rfl e0, (by show 2 ≤ sizeLine; decide), fun d hd => ?_⟩
      have s2 := same_new (o := .tup [V.str "ask", V.str "write"]) hd
      have c2 := c.same s2
      have fr2 := fr.trans (c.fr_same s2)
      refine ⟨d, _, rfl, .inr (SqT.of upd_same), rfl, rfl, _, rfl, ?_⟩
      show (if inV (.str L.tag) [.str "ask", .str "write"] = true then _ else _)
      rw [tag_down]
      by_cases dn : L.down = true
      · rw [dn]
        refine iteT ?_
        rw [if_pos dn, if_pos dn] at k
        obtain ⟨kp, hkp⟩ : ∃ kp, ks[L.num]? = some kp := ⟨_, List.getElem?_eq_getElem (by rw [I.klen]; exact hnum)⟩
        obtain ⟨p, hp, KA⟩ := c2.at_k hkp
        obtain ⟨dk, _, _, _, g1, _⟩ := id KA
        obtain ⟨dx2, hob2⟩ := c2.ob
        refine ⟨_, rfl, W.c, _, dx2, _, _, rfl, hob2, T.clC, T.nCk, rfl, _, rfl, t, _, 2, _, rfl, rfl, (Kept.of_same s2).sqT hs, at_of (j := 2) rfl e2, W.kl, _, _, V.ref p, rfl, rfl, SqL.of c2.kls, atI_nat ?_, p, dk, _, rfl, g1, rfl, _, rfl,
          p, L.num, kp, V.ref t, L, rfl, KA, tx1.at (Kept.of_same s2), dn, B.kp kp (List.mem_of_getElem? hkp), fun H' K' b' => ?_⟩
        · rw [List.getElem?_map, hp]
          rfl
        obtain ⟨c3, fr3⟩ := c2.keep hp K' b'
        rw [onK_some hkp] at k
        exact k W H' rfl c3 (fr2.trans fr3)
      · rw [if_neg dn, if_neg dn] at k
        rw [Bool.not_eq_true] at dn
        rw [dn]
        refine iteF ?_
        exact hear_all T (σ := [some (.ref W.c), some (.int (j : Nat)), some (.bl kept), some (.ref t), none]) (v := 4) (l := 3) rfl rfl (by show 4 < 5; decide) (by decide) (by decide) (tx1.at (Kept.of_same s2)) c2 (HearOk.of I B hnum (B.small L (List.mem_of_getElem? hL)) hm)
          fun u W' H' e _ c3 fr3 => k W' H' e c3 (fr2.trans fr3)
    refine ⟨_, rfl, _, rfl, W.c, _, dx, _, _, rfl, hob, T.clC, T.nCl, rfl, W.ll, _, rfl, .inl (SqL.of hl), _, _, rfl, rfl, _, _, _, rfl, _, rfl, ?_⟩
    rw [decide_eq_true (show (0 : Int) ≤ ((j : Nat) : Int) by omega), decide_eq_true (show ((j : Nat) : Int) ≤ ((lv.length : Nat) : Int) - 1 by omega)]
    refine iteF ?_
    refine ⟨_, rfl, W.c, _, dx, _, _, rfl, hob, T.clC, T.nCl, rfl, _, rfl, W.ll, _, _, x, rfl, rfl, SqL.of hl, atI_nat hx, ?_⟩
    refine ⟨_, rfl, _, rfl, ?_⟩
    cases kept with
    | true =>
      refine iteF ?_
      exact rest H h (Fr.refl _ _)
    | false =>
      refine iteT ?_
      refine ⟨_, rfl, W.c, _, dx, _, _, rfl, hob, T.clC, T.nCl, rfl, .inl ⟨rfl, _, SqL.of hl⟩, _, rfl, W.ll, lv, ((j : Nat) : Int), j, x, rfl, rfl, hl, (by omega), (by omega), ?_, hx, ?_⟩
      · rw [seqIndex_of (by omega) (by omega)]
        simp
      obtain ⟨c, fr⟩ := h.lets (lv := lv.eraseIdx j) (ls' := ls.eraseIdx j) (tl.erase j)
      exact rest _ c fr
theorem giveAll_snoc (up : List Nat) (ks : List Kp) (as : List Let) (l : Let) : giveAll up ks (as ++ [l]) = if l.num ∈ up then onK (giveAll up ks as) l.num (fun k => k.handle l.num l) else giveAll up ks as := by
  unfold giveAll
  rw [List.foldl_append]
  rfl
theorem hearAll_snoc (m : Nat) (ss : List Sq) (as : List Let) (l : Let) : hearAll m ss (as ++ [l]) = (hearAll m ss as).map fun s => s.hear m l := by
  unfold hearAll
  rw [List.foldl_append]
  rfl
theorem drain_snoc (m : Nat) (up : List Nat) (c : List Kp × List Sq) (n : Nat) : drain m (up ++ [n]) c = drain1 m (drain m up c) n := by
  unfold drain
  rw [List.foldl_append]
  rfl
def upV (up : List Nat) : List V := (up.map fun n => ((n : Nat) : Int)).map V.int
def spExch (K : PySem.W.Frag) (a : Ad) : Sp := fun vs H Q _ => ∃ (m : Nat) (G : Addr → Prop) (W : Wd) (ks : List Kp) (ss : List Sq) (ls : List Let) (j : Nat) (s : Sq) (u : Addr) (up : List Nat), vs = [.ref W.c, .int (j : Nat), .ref u] ∧ CouAt K a m G H W ks ss ls ∧
  G u ∧ H u = some (.lst (upV up)) ∧ (∀ n ∈ up, n < m) ∧ Inv m ks ss ls ∧ Bd 90000 ks ss ls ∧ m ≤ 10 ∧ ss[j]? = some s ∧
  ∀ (W' : Wd) (H' : Hp), W'.c = W.c → (W'.qa.map fun q => V.ref q.p) = (W.qa.map fun q => V.ref q.p) → CouAt K a m G H' W' (exch m j up ks ss).1 (exch m j up ks ss).2 ls → Fr G H H' → Q .non H'
theorem scExch : FnScope ["self", "number", "up", "letter", "keeper", "answer", "sequencer"] ["self", "number", "up"] (defScope (sCou 8)) := ⟨rfl, rfl, rfl, by decide +kernel, rfl, by decide +kernel, by decide +kernel⟩
theorem g_exch (T : Txt P K mg a) : ∃ fd, FnOk P w K mg base CX0 6 a.cExch fd ["self", "number", "up"] (spExch K a) ∧ Binds K fd ["self", "number", "up"] [] := by
  obtain ⟨fd, F, b⟩ := T.cExch
  obtain ⟨ft, GT, bt⟩ := g_ssend (P := P) (w := w) (base := base) T
  obtain ⟨fk, GK, bk⟩ := g_handle (P := P) (w := w) (base := base) T
  obtain ⟨ff, GF, bf⟩ := g_kflush (P := P) (w := w) (base := base) T
  obtain ⟨fs, GS, bs⟩ := g_hear (P := P) (w := w) (base := base) T
  refine ⟨fd, F.ok scExch (fun vs H Q E h => ?_) (fun cdv A outer s H vs Q E hr h => ?_), b⟩
  · obtain ⟨m, G, W, ks, ss, ls, j, sq, u, up, rfl, _⟩ := h
    rfl
  · obtain ⟨m, G, W, ks, ss, ls, j, sq, u, up, rfl, h, gu, hu, hup, I, B, hm, hj, k⟩ := h
    have hr1 : Room 1 _ := hr.mono (by decide)
    have hr2 : Room 2 _ := hr.mono (by decide)
    refine ⟨_, pss_cons (ps_for PassesOwn.never rfl (pi_tup (pe_meth0 (pe_ix ix_list (pe_fld (pv 0) rfl) (pv 1) (fun _ _ => rfl)) T.clS T.mSend GT hr1 bt .nil pass0)) (pg_name (i := 3) scExch.nd rfl (Or.inl rfl))
        (pss_one (ps_if (pt_cmpR op_in_seq (pe_ix ix_tup (pv 3) pe_int (fun _ _ => rfl)) (pv 2) (by with_unfolding_all rfl))
          (pss_one (ps_expr (pe_meth (pe_ix ix_list (pe_fld (pv 0) rfl) (pe_ix ix_tup (pv 3) pe_int (fun _ _ => rfl)) (fun _ _ => rfl)) T.clK T.mHandle GK hr bk .nil pass0 (pa_cons (pv 3) pa_nil)))) pss_nil)))
      (pss_one (ps_for PassesOwn.never rfl (pi_list (pv 2)) (pg_name (i := 4) scExch.nd rfl (Or.inl rfl))
        (pss_one (ps_for PassesOwn.never rfl (pi_tup (pe_meth0 (pe_ix ix_list (pe_fld (pv 0) rfl) (pv 4) (fun _ _ => rfl)) T.clK T.mKFlush GF hr1 bf .nil pass0)) (pg_name (i := 5) scExch.nd rfl (Or.inl rfl))
          (pss_one (ps_for PassesOwn.never rfl (pi_list (pe_fld (pv 0) rfl)) (pg_name (i := 6) scExch.nd rfl (Or.inl rfl)) (pss_one (ps_expr (pe_meth (pv 6) T.clS T.mHear GS hr2 bs .nil pass0 (pa_cons (pv 5) pa_nil)))))))))), ?_⟩
    obtain ⟨dx, hob⟩ := h.ob
    obtain ⟨q, hq, SA⟩ := h.at_q hj
    obtain ⟨dq, _, _, g1, _⟩ := id SA
    have sm := List.mem_of_getElem? hj
    have sok := send_ok I sm
    have slen := send_len m sq
    have inUp : ∀ n : Nat, inV (V.int (n : Nat)) (upV up) = decide (n ∈ up) := fun n => by
      unfold upV
      rw [inV_int]
      refine decide_eq_decide.mpr ⟨fun z => ?_, fun z => List.mem_map.mpr ⟨n, z, rfl⟩⟩
      obtain ⟨c, hc, e⟩ := List.mem_map.mp z
      have : c = n := by omega
      rw [← this]
      exact hc
    have allUp : (upV up).all flatV = true := by
      unfold upV
      rw [List.all_map]
      exact List.all_eq_true.mpr fun _ _ => rfl
    -- the letters
    refine ⟨_, rfl, W.c, _, dx, _, _, rfl, hob, T.clC, T.nCs, rfl, _, rfl, W.sl, _, _, V.ref q.p, rfl, rfl, SqL.of h.sls, atI_nat ?_, q.p, dq, _, rfl, g1, rfl, ?_⟩
    · rw [List.getElem?_map, hq]
      rfl
    refine ⟨m, q, sq, rfl, SA, hm, (I.sq sq sm).tlen, fun t H1 tt s1 => ?_⟩
    obtain ⟨ta, ys, rfl, hs, hy⟩ := tp_tup tt
    have hyl := hy.len
    rw [List.length_map] at hyl
    have h1 := h.same s1
    have fr1 := h.fr_same s1
    refine ⟨ta, rfl, ⟨_, hs⟩, for_tup (K := K) (a := ta) (xs := ys) (fun i σ H' => ∃ v3 : Option V, σ = [some (.ref W.c), some (.int (j : Nat)), some (.ref u), v3, none, none, none] ∧ CouAt K a m G H' W (giveAll up ks ((sq.toSend m).take i)) ss ls ∧ Fr G H1 H')
      ⟨none, rfl, h1, Fr.refl _ _⟩ (fun i σ H' _ ⟨_, _, _, fr⟩ => fr.2.sqT hs) ?_ ?_⟩
    · rintro i y σ H' hi ⟨v3, rfl, c, fr⟩
      obtain ⟨d, hd', ty⟩ := (hy.at fr.2).getV hi
      rw [List.getElem?_map] at hd'
      obtain ⟨L, hL, rfl⟩ := Option.map_eq_some_iff.mp hd'
      have hLm := List.mem_of_getElem? hL
      obtain ⟨o1, o2, o3, o4⟩ := sok L hLm
      obtain ⟨t, xs, rfl, hst, e0, e2⟩ := let_tup ty
      have hu' : H' u = some (.lst (upV up)) := by
        rw [fr.1 u gu, fr1.1 u gu]
        exact hu
      refine ⟨_, rfl, t, _, 2, _, rfl, rfl, hst, at_of (j := 2) rfl e2, _, rfl, u, _, rfl, .inl (SqL.of hu'), rfl, allUp, _, rfl, ?_⟩
      show (if inV (V.int (L.num : Nat)) (upV up) = true then _ else _)
      rw [inUp]
      have etake : (sq.toSend m).take (i + 1) = (sq.toSend m).take i ++ [L] := take_next hL
      by_cases z : L.num ∈ up
      · rw [decide_eq_true z]
        refine iteT ?_
        have hln : L.num < (giveAll up ks ((sq.toSend m).take i)).length := by
          rw [giveAll_len, I.klen]
          exact o4
        obtain ⟨kp, hkp⟩ : ∃ kp, (giveAll up ks ((sq.toSend m).take i))[L.num]? = some kp := ⟨_, List.getElem?_eq_getElem hln⟩
        obtain ⟨p, hp, KA⟩ := c.at_k hkp
        obtain ⟨dk, _, _, _, g1, _⟩ := id KA
        obtain ⟨dx2, hob2⟩ := c.ob
        have hB := (B.giveAll up (as := (sq.toSend m).take i)).mono (B' := 100000) (by rw [List.length_take]; omega)
        refine ⟨_, rfl, W.c, _, dx2, _, _, rfl, hob2, T.clC, T.nCk, rfl, _, rfl, t, _, 2, _, rfl, rfl, hst, at_of (j := 2) rfl e2, W.kl, _, _, V.ref p, rfl, rfl, SqL.of c.kls, atI_nat ?_, p, dk, _, rfl, g1, rfl, _, rfl,
          p, L.num, kp, V.ref t, L, rfl, KA, ty, o2, hB.kp kp (List.mem_of_getElem? hkp), fun H2 K' b' => ?_⟩
        · rw [List.getElem?_map, hp]
          rfl
        obtain ⟨c3, fr3⟩ := c.keep hp K' b'
        refine ⟨_, rfl, ?_, fr.trans fr3⟩
        rw [etake, giveAll_snoc, if_pos z, onK_some hkp]
        exact c3
      · rw [decide_eq_false z]
        refine iteF ⟨_, rfl, ?_, fr⟩
        rw [etake, giveAll_snoc, if_neg z]
        exact c
    · rintro σ H2 ⟨v3, rfl, c2, fr2⟩
      rw [hyl, List.take_length] at c2
      obtain ⟨a1, I1⟩ := I.giveAll (up := up) (as := sq.toSend m) fun l hl => (sok l hl).1
      have B1 := (B.giveAll up (as := sq.toSend m)).mono (B' := 100000) (by omega)
      have eex : exch m j up ks ss = drain m up (giveAll up ks (sq.toSend m), ss) := by
        unfold exch
        rw [hj]
      rw [eex] at k
      generalize giveAll up ks (sq.toSend m) = ks1 at *
      have fr02 := fr1.trans fr2
      have hu2 : H2 u = some (.lst (upV up)) := by
        rw [fr02.1 u gu]
        exact hu
      -- the answers
      refine ⟨_, rfl, u, rfl, ⟨_, SqL.of hu2⟩, for_list (K := K) (a := u) (xs := upV up) (fun i σ H' => ∃ (v3 v4 v5 v6 : Option V) (W' : Wd), σ = [some (.ref W.c), some (.int (j : Nat)), some (.ref u), v3, v4, v5, v6] ∧ W'.c = W.c ∧ (W'.qa.map fun q => V.ref q.p) = (W.qa.map fun q => V.ref q.p) ∧
          CouAt K a m G H' W' (drain m (up.take i) (ks1, ss)).1 (drain m (up.take i) (ks1, ss)).2 ls ∧ Fr G H2 H')
        ⟨v3, none, none, none, W, rfl, rfl, rfl, c2, Fr.refl _ _⟩ (fun i σ H' _ ⟨_, _, _, _, _, _, _, _, _, fr⟩ => SqL.of (by rw [fr.1 u gu]; exact hu2)) ?_ ?_⟩
      · rintro i x σ H' hi ⟨v3, v4, v5, v6, W', rfl, ew, ep, c, fr⟩
        unfold upV at hi
        rw [List.getElem?_map, List.getElem?_map] at hi
        obtain ⟨z, hz, rfl⟩ := Option.map_eq_some_iff.mp hi
        obtain ⟨n, hn, rfl⟩ := Option.map_eq_some_iff.mp hz
        have hnm := hup n (List.mem_of_getElem? hn)
        have etake : up.take (i + 1) = up.take i ++ [n] := take_next hn
        obtain ⟨a2, I2⟩ := I1.drain (up := up.take i)
        have B2 := B1.drain (m := m) (up := up.take i)
        have edr := drain_snoc m (up.take i) (ks1, ss) n
        rw [← etake] at edr
        generalize drain m (up.take i) (ks1, ss) = cc at *
        obtain ⟨ks2, ss2⟩ := cc
        have hkl : n < ks2.length := by
          have := I2.klen
          show n < ks2.length
          have e : ks2.length = m := this
          omega
        obtain ⟨kp, hkp⟩ : ∃ kp, ks2[n]? = some kp := ⟨_, List.getElem?_eq_getElem hkl⟩
        have edr' : drain m (up.take (i + 1)) (ks1, ss) = (ks2.set n kp.flush, hearAll m ss2 kp.wait) := by
          rw [edr]
          unfold drain1
          show (match ks2[n]? with | some k => _ | none => _) = _
          rw [hkp]
        obtain ⟨p, hp, KA⟩ := c.at_k hkp
        obtain ⟨dk, _, _, _, g1, _⟩ := id KA
        obtain ⟨dx2, hob2⟩ := c.ob
        have KBp : KB 100000 kp := B2.kp kp (List.mem_of_getElem? hkp)
        rw [ew] at hob2
        refine ⟨_, rfl, W.c, _, dx2, _, _, rfl, hob2, T.clC, T.nCk, rfl, _, rfl, W'.kl, _, _, V.ref p, rfl, rfl, SqL.of c.kls, atI_nat ?_, p, dk, _, rfl, g1, rfl, p, n, kp, rfl, KA, KBp, fun t H3 K3 tt b3 => ?_⟩
        · rw [List.getElem?_map, hp]
          rfl
        obtain ⟨c3, fr3⟩ := c.keep hp K3 b3
        obtain ⟨tb, zs, rfl, hzs, hz3⟩ := tp_tup (tt.at (Kept.refl _))
        have hzl := hz3.len
        rw [List.length_map] at hzl
        obtain ⟨a3, I3, w3⟩ := I2.flush hkp
        have B3 : Bd 100000 (ks2.set n kp.flush) ss2 ls := B2.setK KBp.flush
        refine ⟨tb, rfl, ⟨_, hzs⟩, for_tup (K := K) (a := tb) (xs := zs) (fun i2 σ H'' => ∃ (v5 v6 : Option V) (W'' : Wd), σ = [some (.ref W.c), some (.int (j : Nat)), some (.ref u), v3, some (.int (n : Nat)), v5, v6] ∧ W''.c = W.c ∧ (W''.qa.map fun q => V.ref q.p) = (W.qa.map fun q => V.ref q.p) ∧
            CouAt K a m G H'' W'' (ks2.set n kp.flush) (hearAll m ss2 (kp.wait.take i2)) ls ∧ Fr G H3 H'')
          ⟨v5, v6, W', rfl, ew, ep, c3, Fr.refl _ _⟩ (fun i σ H' _ ⟨_, _, _, _, _, _, _, fr⟩ => fr.2.sqT hzs) ?_ ?_⟩
        · rintro i2 y σ H4 hi2 ⟨v5, v6, W2, rfl, ew2, ep2, c4, fr4⟩
          obtain ⟨d, hd', ty⟩ := (hz3.at fr4.2).getV hi2
          rw [List.getElem?_map] at hd'
          obtain ⟨L, hL, rfl⟩ := Option.map_eq_some_iff.mp hd'
          have hLm := List.mem_of_getElem? hL
          obtain ⟨a4, I4⟩ := I3.hearAll (as := kp.wait.take i2) fun l hl => w3 l (List.mem_of_mem_take hl)
          have B4 := B3.hearAll (m := m) (as := kp.wait.take i2) fun l hl => KBp.small l (List.mem_of_mem_take hl)
          refine hear_all T (W := W2) (σ := [some (.ref W.c), some (.int (j : Nat)), some (.ref u), v3, some (.int (n : Nat)), some y, v6]) (v := 6) (l := 5) (by rw [ew2]; rfl) rfl (by show 6 < 7; decide) (by decide) (by decide) ty c4
            (HearOk.of I4 B4 (w3 L hLm).lt (KBp.small L hLm) hm) fun u' W5 H5 e5 p5 c5 fr5 => ⟨some y, u', W5, rfl, e5.trans ew2, p5.trans ep2, ?_, fr4.trans fr5⟩
          rw [take_next hL, hearAll_snoc]
          exact c5
        · rintro σ H4 ⟨v5, v6, W2, rfl, ew2, ep2, c4, fr4⟩
          rw [hzl, List.take_length] at c4
          refine ⟨v3, _, v5, v6, W2, rfl, ew2, ep2, ?_, fr.trans (fr3.trans fr4)⟩
          rw [edr']
          exact c4
      · rintro σ H3 ⟨v3, v4, v5, v6, W', rfl, ew, ep, c, fr⟩
        have eu : (upV up).length = up.length := by unfold upV; rw [List.length_map, List.length_map]
        rw [eu, List.take_length] at c
        exact k W' H3 ew ep c (fr02.trans fr)
end
end K41
set_option Elab.async false
set_option linter.all false
set_option maxRecDepth 100000
set_option maxHeartbeats 4000000
/-! L41M: the law's helpers; what is guarded. -/
namespace K41
open PySem PySem.Spec PyProof.Rows L2 StX

/-- a list that stays -/
theorem sqL_at {K : PySem.W.Frag} {H H' : Hp} {s : Addr} {xs : List V} (h : SqL K H s xs) (h1 : ∀ ys, H s = some (.lst ys) → H' s = some (.lst ys)) (kk : Kept H H') : SqL K H' s xs := by
  rcases h with (h | ⟨o, h⟩) | h
  · exact .inl (.inl (h1 _ h))
  · exact .inl (.inr ⟨o, kk _ _ trivial h⟩)
  · exact .inr h
/-- the script: a list that others could change, or one that cannot change -/
structure ScAt (K : PySem.W.Frag) (L : Prop) (H : Hp) (s : Addr) (ns : List Int) : Prop where
  open_ : L → H s = some (.lst (ns.map V.int))
  shut : ¬ L → (∃ o, H s = some (.frz o (.lst (ns.map V.int)))) ∨ ∃ (o : Obj) (its : Array Value) (n : Nat), K.lookup s = some o ∧ o.cls = .type "list" ∧ o.dict = none ∧ o.data = .seq its n ∧ its.size ≤ sizeLine ∧ Vals (ns.map V.int) its.toList
theorem ScAt.seq {K : PySem.W.Frag} {L : Prop} {H : Hp} {s : Addr} {ns : List Int} (h : ScAt K L H s ns) : SqL K H s (ns.map V.int) := by
  by_cases c : L
  · exact .inl (.inl (h.open_ c))
  · rcases h.shut c with ⟨o, g⟩ | g
    · exact .inl (.inr ⟨o, g⟩)
    · exact .inr g
theorem ScAt.of {K : PySem.W.Frag} {H : Hp} {s : Addr} {ns : List Int} (h : SqL K H s (ns.map V.int)) : ∃ L : Prop, ScAt K L H s ns := by
  rcases h with (h | h) | h
  · exact ⟨True, fun _ => h, fun z => absurd trivial z⟩
  · exact ⟨False, fun z => z.elim, fun _ => .inl h⟩
  · exact ⟨False, fun z => z.elim, fun _ => .inr h⟩
theorem ScAt.at' {K : PySem.W.Frag} {L : Prop} {H H' : Hp} {s : Addr} {ns : List Int} (h : ScAt K L H s ns) (h1 : L → H' s = H s) (kk : Kept H H') : ScAt K L H' s ns := by
  refine ⟨fun l => by rw [h1 l]; exact h.open_ l, fun n => ?_⟩
  rcases h.shut n with ⟨o, g⟩ | g
  · exact .inl ⟨o, kk _ _ trivial g⟩
  · exact .inr g
/-- the drawer: the script and how many were drawn -/
structure DrawAt (K : PySem.W.Frag) (L : Prop) (H : Hp) (d s : Addr) (ns : List Int) : Prop where
  at_ : ∃ c : Int, 0 ≤ c ∧ H d = some (.lst [.ref s, .int c])
  sc : ScAt K L H s ns
  len : ns.length ≤ 63
theorem DrawAt.but {K : PySem.W.Frag} {L : Prop} {H H' : Hp} {d s : Addr} {ns : List Int} {c : Int} (h : DrawAt K L H d s ns) (hc : 0 ≤ c) (h1 : H' d = some (.lst [.ref s, .int c])) (b : But d H H') : DrawAt K L H' d s ns := by
  obtain ⟨⟨c0, _, e⟩, sc, hl⟩ := h
  refine ⟨⟨c, hc, h1⟩, sc.at' (fun l => ?_) (b.kept e (fun z => z)), hl⟩
  have g := sc.open_ l
  by_cases z : s = d
  · exfalso
    subst z
    rw [e] at g
    injection g with g
    injection g with g
    cases ns with
    | nil => simp at g
    | cons a r => simp at g
  · rw [g]
    exact b _ _ g z
theorem DrawAt.fr {K : PySem.W.Frag} {L : Prop} {G : Addr → Prop} {H H' : Hp} {d s : Addr} {ns : List Int} (h : DrawAt K L H d s ns) (f : Fr G H H') (gd : G d) (gs : L → G s) : DrawAt K L H' d s ns := by
  obtain ⟨⟨c0, h0, e⟩, sc, hl⟩ := h
  exact ⟨⟨c0, h0, by rw [f.1 d gd]; exact e⟩, sc.at' (fun l => f.1 s (gs l)) f.2, hl⟩
theorem DrawAt.same {K : PySem.W.Frag} {L : Prop} {H H' : Hp} {d s : Addr} {ns : List Int} (h : DrawAt K L H d s ns) (k : Same H H') : DrawAt K L H' d s ns := by
  obtain ⟨⟨c0, h0, e⟩, sc, hl⟩ := h
  refine ⟨⟨c0, h0, k _ _ e⟩, sc.at' (fun l => ?_) (Kept.of_same k), hl⟩
  rw [sc.open_ l]
  exact k _ _ (sc.open_ l)
/-- a guarded list has changed -/
theorem CouAt.own {K : PySem.W.Frag} {a : Ad} {m : Nat} {G : Addr → Prop} {H H' : Hp} {W : Wd} {ks : List Kp} {ss : List Sq} {ls : List Let} (h : CouAt K a m G H W ks ss ls) {d : Addr} {ys : List V} (gd : G d) (b : But d H H') (h1 : H' d = some (.lst ys)) :
    CouAt K a m G H' W ks ss ls := by
  obtain ⟨⟨xs, hd⟩, n1, n2, n3, n4⟩ := h.gd d gd
  have kk := b.kept hd (fun z => z)
  obtain ⟨dx, g1⟩ := h.ob
  obtain ⟨lv, g2, g3⟩ := h.lls
  refine ⟨⟨dx, b _ _ g1 (ne_of g1 hd (by intro z; cases z))⟩, b _ _ h.kls n1.symm, b _ _ h.sls n2.symm, ⟨lv, b _ _ g2 n3.symm, g3.at kk⟩, ⟨h.kees.1, fun j p k e1 e2 => ?_⟩, h.qlen, fun j r t e1 e2 => ?_, h.kn, h.qn, h.qo, h.ns, fun c hc => ?_⟩
  · have KA := h.kees.2 j p k e1 e2
    obtain ⟨d2, r, l, w, g1, _⟩ := id KA
    exact KA.but (ne_of g1 hd (by intro z; cases z)) b kk
  · have SR := h.seqs j r t e1 e2
    obtain ⟨d2, kv2, xs2, g1, g2, g3, g4, g5, g6⟩ := id SR
    exact SR.off (p := fun c => c = d) b kk (ne_of g1 hd (by intro z; cases z)) (ne_of g2 hd (by intro z; cases z)) (fun z => n4 r (List.mem_of_getElem? e1) z.symm) (ne_of g6 hd (by intro z; cases z))
  · obtain ⟨⟨zs, e⟩, r⟩ := h.gd c hc
    by_cases z : c = d
    · subst z
      exact ⟨⟨ys, h1⟩, r⟩
    · exact ⟨⟨zs, b _ _ e z⟩, r⟩
/-- one more list is guarded -/
theorem CouAt.guard {K : PySem.W.Frag} {a : Ad} {m : Nat} {G : Addr → Prop} {H H' : Hp} {W : Wd} {ks : List Kp} {ss : List Sq} {ls : List Let} (h : CouAt K a m G H W ks ss ls) {u : Addr} {ys : List V} (s : Same H H') (hu : H u = none) (h1 : H' u = some (.lst ys)) :
    CouAt K a m (fun b => G b ∨ b = u) H' W ks ss ls := by
  have c := h.same s
  obtain ⟨lv, g2, g3⟩ := h.lls
  refine ⟨c.ob, c.kls, c.sls, c.lls, c.kees, c.qlen, c.seqs, c.kn, c.qn, c.qo, c.ns, fun b hb => ?_⟩
  rcases hb with hb | rfl
  · exact c.gd b hb
  · refine ⟨⟨ys, h1⟩, (ne_of_none h.kls hu).symm, (ne_of_none h.sls hu).symm, (ne_of_none g2 hu).symm, fun q hq => ?_⟩
    obtain ⟨i, hi⟩ := List.getElem?_of_mem hq
    obtain ⟨t, _, SA⟩ := h.sq_of hi
    obtain ⟨_, _, _, _, _, _, g4, _⟩ := SA
    exact (ne_of_none g4 hu).symm

def spNum (K : PySem.W.Frag) : Sp := fun vs H Q _ => ∃ (s : Addr) (ns : List Int) (i : Int), vs = [.ref s, .int i] ∧ SqL K H s (ns.map V.int) ∧ ns.length ≤ 63 ∧ ∀ (r : Int) (H' : Hp), 0 ≤ r → Same H H' → Q (.int r) H'
def spTake (K : PySem.W.Frag) : Sp := fun vs H Q _ => ∃ (L : Prop) (d s : Addr) (ns : List Int) (many : Int), vs = [.ref d, .int many] ∧ DrawAt K L H d s ns ∧ 0 < many ∧
  ∀ (r : Nat) (ys : List V) (H' : Hp), (r : Int) < many → DrawAt K L H' d s ns → H' d = some (.lst ys) → But d H H' → Q (.int (r : Nat)) H'
def spPick (K : PySem.W.Frag) : Sp := fun vs H Q _ => ∃ (L : Prop) (d s l : Addr) (ns : List Int) (xs : List V), vs = [.ref d, .ref l] ∧ DrawAt K L H d s ns ∧ l ≠ d ∧ H l = some (.lst xs) ∧ xs ≠ [] ∧
  ∀ (i : Nat) (x : V) (ys : List V) (H' : Hp), xs[i]? = some x → DrawAt K L H' d s ns → H' d = some (.lst ys) → But d H H' → Q x H'
theorem ints_eqv : ∀ ns : List Int, PyData.eqv (.list (ns.map PyData.int)) (.list []) = decide (ns = [])
  | [] => by simp [PyData.eqv, PyData.eqvAll]
  | n :: ns => by simp [PyData.eqv, PyData.eqvAll]
theorem ints_dp {K : PySem.W.Frag} {H : Hp} : ∀ ns : List Int, DpAll K H (ns.map V.int) (ns.map PyData.int)
  | [] => .nil
  | n :: ns => .cons (.int n) (ints_dp ns)

section
variable {P : Program} {w : World} {K : PySem.W.Frag} {mg : Str → Option Value} {base : Heap} {a : Ad}
theorem scNum : FnScope ["_law_script", "_law_index", "_law_cell", "_law_blend"] ["_law_script", "_law_index"] (defScope sNum) := ⟨rfl, rfl, rfl, by decide +kernel, rfl, by decide +kernel, by decide +kernel⟩
theorem g_num (T : Txt P K mg a) : ∃ fd, FnOk P w K mg base CX0 1 a.num fd ["_law_script", "_law_index"] (spNum K) ∧ Binds K fd ["_law_script", "_law_index"] [] := by
  obtain ⟨fd, F, b⟩ := T.num
  refine ⟨fd, F.ok scNum (fun vs H Q E h => ?_) (fun cdv A outer s H vs Q E hr h => ?_), b⟩
  · obtain ⟨sa, ns, i, rfl, _⟩ := h
    rfl
  · obtain ⟨sa, ns, i, rfl, hs, hlen, k⟩ := h
    have hu : (A.deeper (envOfC "_law_number" (defScope sNum) s.heap.objs.size a.num cdv)).units + 64 < cLine := by have := hr.un; omega
    refine ⟨_, pss_cons (ps_if (pt_cmpR (op_eqD hu) (pv 0) (pe_lst pa_nil) (nomark _))
        (pss_one (ps_ret (pe_callTy call_int1 rfl T.nInt (by decide +kernel) (pa_cons (pe_op op_mod (pe_op op_add (pe_op op_mul (pv 1) pe_int) pe_int) pe_int) pa_nil)))) pss_nil)
      (pss_cons (ps_set (i := 2) scNum.nd rfl (Or.inl rfl) (pe_ix ix_list (pv 0) (pe_op op_mod (pv 1) (pe_callB call_len_seq rfl T.nLen PySem.boot_len (pa_cons (pv 0) pa_nil))) (fun _ _ => rfl)))
      (pss_cons (ps_if (pt_cmpR op_ge (pe_callB call_abs rfl T.nAbs (by decide +kernel) (pa_cons (pv 2) pa_nil)) (pe_op op_pow pe_int pe_int) (nomark _))
        (pss_one (ps_set (i := 2) scNum.nd rfl (Or.inl rfl) (pe_op op_mod (pv 2) (pe_op op_pow pe_int pe_int)))) pss_nil)
      (pss_cons (ps_set (i := 3) scNum.nd rfl (Or.inl rfl) (pe_op op_mod (pe_op op_add (pe_op op_mul (pe_op op_add (pv 2) (pe_op op_mul pe_int (pv 1))) pe_int) (pe_op op_mul pe_int (pe_callB call_len_seq rfl T.nLen PySem.boot_len (pa_cons (pv 0) pa_nil)))) pe_int))
      (pss_one (ps_ret (pe_callTy call_int1 rfl T.nInt (by decide +kernel) (pa_cons (pe_op op_mod (pe_op op_add (pe_op op_mul (pe_op op_mod (pe_op op_mul (pv 3) pe_int) pe_int) pe_int) (pv 1)) pe_int) pa_nil))))))), ?_⟩
    refine ⟨_, rfl, (by show 0 ≤ sizeLine; decide), fun f hf => ?_⟩
    have s1 := same_new (o := .lst []) hf
    refine ⟨.list (ns.map PyData.int), .list [], .lst (s1.seq hs) (ints_dp ns), .lst (SqL.of upd_same) .nil, lst_shaped (n := 0) (fun _ => by simp [PyData.canLay0]) (fun _ => by simp [PyData.depth]) (by decide) ns, lst_shaped (n := 0) (f := PyData.int) (fun _ => by simp [PyData.canLay0]) (fun _ => by simp [PyData.depth]) (by decide) [], _, rfl, ?_⟩
    rw [ints_eqv]
    have c1 : ∀ i : Int, CMul i 48271 := fun i => .inr (by decide)
    have c2 : ∀ i : Int, CMul i 69621 := fun i => .inr (by decide)
    have c3 : ∀ i : Int, CMul i 16807 := fun i => .inr (by decide)
    have c4 : ∀ i : Int, CMul 977 i := fun i => .inl (by decide)
    have c5 : ∀ i : Int, CMul 31 i := fun i => .inl (by decide)
    by_cases hn : ns = []
    · rw [decide_eq_true hn]
      refine iteT ⟨_, rfl, _, _, rfl, rfl, c1 _, _, _, rfl, rfl, _, _, rfl, rfl, (by show (0 : Int) < _; decide), .inl ⟨_, rfl, k _ _ (Int.emod_nonneg _ (by decide)) s1⟩⟩
    · rw [decide_eq_false hn]
      refine iteF ?_
      have hl : 0 < ns.length := List.length_pos_iff.mpr hn
      have hpos : (0 : Int) < ((ns.map V.int).length : Nat) := by rw [List.length_map]; omega
      have h0 := Int.emod_nonneg i (show (((ns.map V.int).length : Nat) : Int) ≠ 0 by omega)
      have h1 := Int.emod_lt_of_pos i hpos
      obtain ⟨j, hj⟩ : ∃ j : Nat, i % (((ns.map V.int).length : Nat) : Int) = ((j : Nat) : Int) := ⟨(i % (((ns.map V.int).length : Nat) : Int)).toNat, by omega⟩
      have hjl : j < ns.length := by
        rw [hj, List.length_map] at h1
        omega
      have hget : (ns.map V.int)[j]? = some (V.int ns[j]) := by rw [List.getElem?_map, List.getElem?_eq_getElem hjl]; rfl
      refine ⟨_, rfl, _, rfl, _, rfl, sa, _, rfl, .inl (s1.seq hs), _, _, rfl, rfl, hpos, sa, _, _, _, rfl, rfl, s1.seq hs, at_of (j := j) hj hget, ?_⟩
      -- what follows
      have rest : ∀ z : Int, (tSeq (tAsg (tOp (rI (fun _ j => 0 < j) fun i j => .int (i % j)) (tOp (rI0 fun i j => .int (i + j)) (tOp (rI CMul fun i j => .int (i * j)) (tOp (rI0 fun i j => .int (i + j)) (tVar 2) (tOp (rI CMul fun i j => .int (i * j)) (tC (.int 977)) (tVar 1))) (tC (.int 48271)))
            (tOp (rI CMul fun i j => .int (i * j)) (tC (.int 31)) (tCB (rLen K) (tCons (tVar 0) tNil)))) (tC (.int 2147483647))) (gName 3))
          (tRet (tCB (fun xs H Q => (∃ i, xs = [.int i] ∧ Q (.int i) H) ∨ ∃ k, xs = [.bl k] ∧ Q (.int (if k then 1 else 0)) H) (tCons (tOp (rI (fun _ j => 0 < j) fun i j => .int (i % j)) (tOp (rI0 fun i j => .int (i + j)) (tOp (rI CMul fun i j => .int (i * j)) (tOp (rI (fun _ j => 0 < j) fun i j => .int (i % j)) (tOp (rI CMul fun i j => .int (i * j)) (tVar 3) (tC (.int 69621))) (tC (.int 2147483629))) (tC (.int 16807))) (tVar 1)) (tC (.int 2147483587))) tNil))))
          { nx := fun _ H' => Q .non H', rt := Q } [some (.ref sa), some (.int i), some (.int z), none] (upd H f (.lst [])) := by
        intro z
        refine ⟨_, rfl, _, rfl, _, _, rfl, rfl, c4 _, _, _, rfl, rfl, _, _, rfl, rfl, c1 _, _, rfl, sa, _, rfl, .inl (s1.seq hs), _, _, rfl, rfl, c5 _, _, _, rfl, rfl, _, _, rfl, rfl, (by show (0 : Int) < _; decide), ?_⟩
        exact ⟨_, rfl, _, _, rfl, rfl, c2 _, _, _, rfl, rfl, (by show (0 : Int) < _; decide), _, _, rfl, rfl, c3 _, _, rfl, _, _, rfl, rfl, _, _, rfl, rfl, (by show (0 : Int) < _; decide), .inl ⟨_, rfl, k _ _ (Int.emod_nonneg _ (by decide)) s1⟩⟩
      refine ⟨_, rfl, _, rfl, _, _, rfl, rfl, ⟨by decide, by decide, by decide⟩, _, _, rfl, rfl, _, rfl, ?_⟩
      by_cases big : (10 : Int) ^ (60 : Int).toNat ≤ (if ns[j] < 0 then -ns[j] else ns[j])
      · rw [decide_eq_true big]
        refine iteT ⟨_, rfl, _, _, rfl, rfl, ⟨by decide, by decide, by decide⟩, _, _, rfl, rfl, (by show (0 : Int) < 10 ^ (18 : Int).toNat; decide), ?_⟩
        exact rest _
      · rw [decide_eq_false big]
        exact iteF (rest _)
theorem scTake : FnScope ["_law_draw", "_law_many"] ["_law_draw", "_law_many"] (defScope sTake) := ⟨rfl, rfl, rfl, by decide +kernel, rfl, by decide +kernel, by decide +kernel⟩
theorem g_take (T : Txt P K mg a) : ∃ fd, FnOk P w K mg base CX0 2 a.take fd ["_law_draw", "_law_many"] (spTake K) ∧ Binds K fd ["_law_draw", "_law_many"] [] := by
  obtain ⟨fd, F, b⟩ := T.take
  obtain ⟨fn, GN, bn⟩ := g_num (P := P) (w := w) (base := base) T
  obtain ⟨_, Fn, _⟩ := T.num
  refine ⟨fd, F.ok scTake (fun vs H Q E h => ?_) (fun cdv A outer s H vs Q E hr h => ?_), b⟩
  · obtain ⟨L, d, sa, ns, many, rfl, _⟩ := h
    rfl
  · obtain ⟨L, d, sa, ns, many, rfl, D, hm, k⟩ := h
    refine ⟨_, pss_cons (ps_augS (pv 0) pe_int get_lst pe_int ip_add set_list)
      (pss_one (ps_ret (pe_op op_mod (pe_callTy call_int1 rfl T.nInt (by decide +kernel) (pa_cons (pe_call GN hr rfl T.gNum Fn.kp bn .nil pass0
        (pa_cons (pe_ix ix_list (pv 0) pe_int (fun _ _ => rfl)) (pa_cons (pe_callTy call_int1 rfl T.nInt (by decide +kernel) (pa_cons (pe_ix ix_list (pv 0) pe_int (fun _ _ => rfl)) pa_nil)) pa_nil))) pa_nil)) (pv 1)))), ?_⟩
    obtain ⟨⟨c, hc, hd⟩, sc, hl⟩ := id D
    refine ⟨_, rfl, d, _, 1, .int c, rfl, rfl, SqL.of hd, (by decide), rfl, _, _, rfl, rfl, d, _, 1, 1, rfl, rfl, hd, rfl, ?_⟩
    generalize hH : upd H d _ = H1
    have h1 : H1 d = some (.lst [.ref sa, .int (c + 1)]) := by
      rw [← hH]
      exact upd_same
    have b1 : But d H H1 := by
      rw [← hH]
      exact But.upd
    clear hH
    have D1 := D.but (show 0 ≤ c + 1 by omega) h1 b1
    refine ⟨_, rfl, d, _, 0, _, rfl, rfl, SqL.of h1, at_of (j := 0) rfl rfl, _, rfl, d, _, 1, _, rfl, rfl, SqL.of h1, at_of (j := 1) rfl rfl, .inl ⟨_, rfl, sa, ns, c + 1, rfl, D1.sc.seq, hl, fun r H2 hr0 s2 => .inl ⟨r, rfl, ?_⟩⟩⟩
    refine ⟨_, rfl, _, _, rfl, rfl, hm, ?_⟩
    have g0 := Int.emod_nonneg r (show many ≠ 0 by omega)
    have g1 := Int.emod_lt_of_pos r hm
    have e : ((r % many).toNat : Int) = r % many := by omega
    have := k (r % many).toNat _ H2 (by omega) (D1.same s2) (s2 _ _ h1) (b1.trans (But.of_same s2))
    rw [e] at this
    exact this
theorem scPick : FnScope ["_law_draw", "_law_items"] ["_law_draw", "_law_items"] (defScope sPick) := ⟨rfl, rfl, rfl, by decide +kernel, rfl, by decide +kernel, by decide +kernel⟩
theorem g_pick (T : Txt P K mg a) : ∃ fd, FnOk P w K mg base CX0 3 a.pick fd ["_law_draw", "_law_items"] (spPick K) ∧ Binds K fd ["_law_draw", "_law_items"] [] := by
  obtain ⟨fd, F, b⟩ := T.pick
  obtain ⟨fn, GN, bn⟩ := g_take (P := P) (w := w) (base := base) T
  obtain ⟨_, Fn, _⟩ := T.take
  refine ⟨fd, F.ok scPick (fun vs H Q E h => ?_) (fun cdv A outer s H vs Q E hr h => ?_), b⟩
  · obtain ⟨L, d, sa, l, ns, xs, rfl, _⟩ := h
    rfl
  · obtain ⟨L, d, sa, l, ns, xs, rfl, D, hne, hx, hxn, k⟩ := h
    refine ⟨_, pss_one (ps_ret (pe_ix ix_list (pv 1) (pe_call GN hr rfl T.gTake Fn.kp bn .nil pass0 (pa_cons (pv 0) (pa_cons (pe_callB call_len_seq rfl T.nLen PySem.boot_len (pa_cons (pv 1) pa_nil)) pa_nil))) (fun _ _ => rfl))), ?_⟩
    have hl := List.length_pos_iff.mpr hxn
    refine ⟨_, rfl, _, rfl, _, rfl, l, _, rfl, .inl (SqL.of hx), L, d, sa, ns, _, rfl, D, (by omega), fun r ys H1 hr D1 hd b1 => ?_⟩
    have hrl : r < xs.length := by omega
    exact ⟨l, xs, _, xs[r], rfl, rfl, SqL.of (b1 _ _ hx hne), atI_nat (List.getElem?_eq_getElem hrl), k r _ ys H1 (List.getElem?_eq_getElem hrl) D1 hd b1⟩
end
end K41
set_option Elab.async false
set_option linter.all false
set_option maxRecDepth 100000
set_option maxHeartbeats 4000000
/-! L41N: the law. -/
namespace K41
open PySem PySem.Spec PyProof.Rows L2 StX

def tMethE (C : Addr) (m : Str) (sp : Sp) (E : L2.St → XK) (ta : TE) (t : TA) : TE := fun σ H Q => ta σ H fun x H1 => ∃ a dx fs, x = .ref a ∧ H1 a = some (.ins C dx fs) ∧ fs.lookup m = none ∧ t σ H1 fun vs H2 => sp (x :: vs) H2 Q (E σ)
theorem pe_methE {X : Cx} {CX : CXT} {k : Nat} {f C : Addr} {fd : FuncData} {ps : List Str} {sp : Sp} {E : L2.St → XK} {m : Str} {pos apos : Pos} {e o : Expr} {es : List Expr} {ta : TE} {t : TA} {pl : Sem Bool} (he : PE X o ta) (c : Cls X.K C) (hm : Meth X.K C m f)
    (F : FnOk X.prog X.w X.K X.mg X.base CX k f fd ps sp) (hr : Room k X.A) (hb : Binds X.K fd ps []) (hx : ∀ σ, PassesAt CX X σ (E σ)) (ha : PA X (e :: es) t)
    (hst : starEach (e :: es) X.env = (false, eval e X.env) :: starEach es X.env := by rfl) (hpl : (backTo pos (starEach es X.env)).any (·.1) = false := by rfl)
    (ht : eval (.Call (.Attribute o m apos) (e :: es) [] pos) X.env = (do
      let ov ← eval o X.env
      standAt apos.atName
      let (f, first) ← holding [ov] (getMethod ov m pl)
      callWith pos f first (backTo pos (starEach (e :: es) X.env)) (backToKw pos (keywordEach [] X.env))) := by rfl) :
    PE X (.Call (.Attribute o m apos) (e :: es) [] pos) (tMethE C m sp E ta t) := by
  refine ⟨fun pins s σ H Q I h => ?_⟩
  refine PySem.W.methodCall_KW (pl := pl) (thn (he.run pins s σ H _ I h) fun u s1 ⟨x, H1, I1, rx, a, dx, fs, ex, ea, l, q⟩ => ?_) ht
  subst ex
  obtain rfl : u = Value.ref a := rx
  refine getmeth_ok I1 ea c hm l ?_
  refine PySem.W.callWith_K (first := [.ref a]) (h₀ := X.base) I.ok.mod.kin hm.kp (thn (ha.run pos pins s1 σ H1 _ I1 q) fun us s2 ⟨vs, H2, I2, r, q2⟩ => ⟨I2.kIn, ?_⟩) hst hpl
  exact run_fnS (us := .ref a :: us) (vs := .ref a :: vs) F hr hb (hx σ) I2 (.cons rfl r) q2

theorem gname_ {i : Nat} {v : V} {σ : L2.St} {H : Hp} {Q : L2.St → Hp → Prop} (h : Q (σ.set i (some v)) H) : gName i v σ H Q := h
theorem if_and {t1 t2 : TT} {X Y : TS} {D : Ends} {σ : L2.St} {H : Hp} (b1 b2 : Bool) (h1 : ∀ Q : Bool → Hp → Prop, Q b1 H → t1 σ H Q) (h2 : ∀ Q : Bool → Hp → Prop, (∀ H', Same H H' → Q b2 H') → t2 σ H Q)
    (hX : b1 = true → b2 = true → ∀ H', Same H H' → X D σ H') (hY : (b1 && b2) = false → ∀ H', Same H H' → Y D σ H') : tIfS (tAnd t1 t2) X Y D σ H := by
  refine h1 _ ?_
  cases b1 with
  | false => exact iteF (iteF (hY rfl H (Same.refl _)))
  | true =>
    refine iteT (h2 _ fun H' s => ?_)
    cases b2 with
    | false => exact iteF (hY rfl H' s)
    | true => exact iteT (hX rfl rfl H' s)
theorem seq_if {R : L2.St → Hp → Prop} {c : TT} {X Z : TS} {D : Ends} {σ : L2.St} {H : Hp} (b : Bool) (h1 : ∀ Q : Bool → Hp → Prop, Q b H → c σ H Q) (hZ : ∀ σ' H', R σ' H' → Z D σ' H')
    (hX : b = true → ∀ N : L2.St → Hp → Prop, (∀ σ' H', R σ' H' → N σ' H') → X { D with nx := N } σ H) (hN : b = false → R σ H) : tSeq (tIfS c X tNext) Z D σ H := by
  refine h1 _ ?_
  cases b with
  | false => exact iteF (hZ _ _ (hN rfl))
  | true => exact iteT (hX rfl _ hZ)
theorem seq_of {t u : TS} {D : Ends} {σ : L2.St} {H : Hp} (R : L2.St → Hp → Prop) (hu : ∀ σ' H', R σ' H' → u D σ' H') (ht : ∀ N : L2.St → Hp → Prop, (∀ σ' H', R σ' H' → N σ' H') → t { D with nx := N } σ H) : tSeq t u D σ H := ht _ hu
theorem fewOf {m B : Nat} {ks : List Kp} {ss : List Sq} {ls : List Let} (I : Inv m ks ss ls) (b : Bd B ks ss ls) (hB : B ≤ 90000) (hm : m ≤ 10) : Few ks :=
  ⟨by rw [I.klen]; exact hm, fun k hk => Nat.le_trans (I.fewP b hk).1 (by omega), fun k hk e p x h => by have := (I.fewP b hk).2 e p x h; omega⟩
theorem p_of {W : Wd} {PV : List V} {j : Nat} {q : Lo} {lp : Addr} (ep : (W.qa.map fun q => V.ref q.p) = PV) (hq : W.qa[j]? = some q) (hp : PV[j]? = some (.ref lp)) : q.p = lp := by
  rw [← ep, List.getElem?_map, hq] at hp
  injection hp with hp
  injection hp
theorem erase_up : ∀ (up : List Nat) (i : Nat), (upV up).eraseIdx i = upV (up.eraseIdx i)
  | [], _ => rfl
  | a :: l, 0 => rfl
  | a :: l, i + 1 => congrArg (V.int ((a : Nat) : Int) :: ·) (erase_up l i)
theorem upV_len (up : List Nat) : (upV up).length = up.length := by unfold upV; rw [List.length_map, List.length_map]
theorem Up.erase {m : Nat} {up : List Nat} (U : Up m up) {i : Nat} (hi : i < up.length) (hm : most m < up.length) : Up m (up.eraseIdx i) :=
  ⟨(List.eraseIdx_sublist up i).nodup U.nd, fun n hn => U.lt n (List.mem_of_mem_eraseIdx hn), by rw [List.length_eraseIdx_of_lt hi]; omega⟩
theorem Up.all {m : Nat} (h : 0 < m) : Up m (List.range m) := ⟨List.nodup_range, fun n hn => List.mem_range.mp hn, by rw [List.length_range]; unfold K41.most; omega⟩
theorem cut_last (xs : List V) : cutV xs none (some (-1)) = xs.take (xs.length - 1) := by
  unfold cutV
  have e1 : HT.sIx xs.length 0 none = 0 := rfl
  have e2 : HT.sIx xs.length xs.length (some (-1)) = xs.length - 1 := by
    show (if (-1 : Int) < 0 then ((-1 : Int) + xs.length).toNat else min ((-1 : Int)).toNat xs.length) = _
    rw [if_pos (by decide)]
    omega
  rw [e1, e2, List.drop_zero, Nat.sub_zero]
theorem eps_ne {ss : List Sq} (h : (ss.map (·.ep)).Nodup) {i i' : Nat} {s s' : Sq} (h1 : ss[i]? = some s) (h2 : ss[i']? = some s') (n : i' ≠ i) : s'.ep ≠ s.ep := fun z => by
  have hl := (List.getElem?_eq_some_iff.mp h2).1
  refine n ((List.getElem?_inj (l := ss.map (·.ep)) (by rw [List.length_map]; exact hl) h).mp ?_)
  rw [List.getElem?_map, List.getElem?_map, h1, h2]
  exact congrArg some z
theorem cut_take (xs : List V) (t0 : Nat) : cutV xs none (some ((t0 : Nat) : Int)) = xs.take t0 := by
  unfold cutV
  have e1 : HT.sIx xs.length 0 none = 0 := rfl
  have e2 : HT.sIx xs.length xs.length (some ((t0 : Nat) : Int)) = min t0 xs.length := by
    show (if ((t0 : Nat) : Int) < 0 then (((t0 : Nat) : Int) + xs.length).toNat else min (((t0 : Nat) : Int)).toNat xs.length) = _
    rw [if_neg (by omega), Int.toNat_natCast]
  rw [e1, e2, List.drop_zero, Nat.sub_zero]
  rcases Nat.le_total t0 xs.length with h | h
  · rw [Nat.min_eq_left h]
  · rw [Nat.min_eq_right h, List.take_length, List.take_of_length_le h]
def spLaw (K : PySem.W.Frag) : Sp := fun vs H Q _ => ∃ (s : Addr) (ns : List Int), vs = [.ref s] ∧ SqL K H s (ns.map V.int) ∧ ns.length ≤ 63 ∧ ∀ H', Q (.bl true) H'
abbrev lawN : List Str := ["_law_script", "_law_draw", "_law_many", "_law_council", "_law_word", "_law_turn", "_law_kind", "_law_one", "_law_before", "_law_up", "_law_number_here", "_law_leader", "fault", "_law_at"]

section
variable {P : Program} {w : World} {K : PySem.W.Frag} {mg : Str → Option Value} {base : Heap} {a : Ad}
theorem scLaw : FnScope lawN ["_law_script"] (defScope sLaw) := ⟨rfl, rfl, rfl, by decide +kernel, rfl, by decide +kernel, by decide +kernel⟩
theorem g_law (T : Txt P K mg a) {f : Addr} {fd : FuncData} (F : Fun K "law" "law" sLaw f fd) : FnOk P w K mg base CX0 7 f fd ["_law_script"] (spLaw K) := by
  obtain ⟨ft, GT, bt⟩ := g_take (P := P) (w := w) (base := base) T
  obtain ⟨_, Ft, _⟩ := T.take
  obtain ⟨fp, GP, bp⟩ := g_pick (P := P) (w := w) (base := base) T
  obtain ⟨_, Fp, _⟩ := T.pick
  obtain ⟨fm, GM, bm⟩ := g_most (P := P) (w := w) (base := base) T
  obtain ⟨_, Fm, _⟩ := T.most
  obtain ⟨fc, GC, bc⟩ := g_cinit (P := P) (w := w) (base := base) T
  obtain ⟨fb, GB, bb⟩ := g_begin (P := P) (w := w) (base := base) T
  obtain ⟨fs, GS, bs⟩ := g_csend (P := P) (w := w) (base := base) T
  obtain ⟨ff, GF, bf⟩ := g_cflush (P := P) (w := w) (base := base) T
  obtain ⟨fd', GD, bd⟩ := g_deliver (P := P) (w := w) (base := base) T
  obtain ⟨fx, GX, bx⟩ := g_exch (P := P) (w := w) (base := base) T
  obtain ⟨fe, GE, be⟩ := g_csettled (P := P) (w := w) (base := base) T
  obtain ⟨fa, GA, ba⟩ := g_add (P := P) (w := w) (base := base) T
  obtain ⟨fa0, GA0, ba0⟩ := g_add0 (P := P) (w := w) (base := base) T
  obtain ⟨fl, GL, bl⟩ := g_ssettled (P := P) (w := w) (base := base) T
  refine F.ok scLaw (fun vs H Q E h => ?_) (fun cdv A outer s H vs Q E hr h => ?_)
  · obtain ⟨sa, ns, rfl, _⟩ := h
    rfl
  · obtain ⟨sa, ns, rfl, hS, hlen, k⟩ := h
    have hr1 : Room 1 _ := hr.mono (by decide)
    have hr2 : Room 2 _ := hr.mono (by decide)
    have hr3 : Room 3 _ := hr.mono (by decide)
    have hr4 : Room 4 _ := hr.mono (by decide)
    have hu1 : (A.deeper (envOfC "law" (defScope sLaw) s.heap.objs.size f cdv)).units + 1 < cLine := by have := hr.un; omega
    have hu64 : (A.deeper (envOfC "law" (defScope sLaw) s.heap.objs.size f cdv)).units + 64 < cLine := by have := hr.un; omega
    refine ⟨_, pss_cons (ps_set (i := 1) scLaw.nd rfl (Or.inl rfl) (pe_lst (pa_cons (pv 0) (pa_cons pe_int pa_nil))))
      (pss_cons (ps_set (i := 2) scLaw.nd rfl (Or.inl rfl) (pe_op op_add pe_int (pe_call GT hr2 rfl T.gTake Ft.kp bt .nil pass0 (pa_cons (pv 1) (pa_cons pe_int pa_nil)))))
      (pss_cons (ps_par (i := 3) (j := 4) rfl scLaw.nd rfl rfl (by decide) rfl rfl (pa_cons (pe_make T.mkC GC hr4 rfl T.gC bc .nil pass0 (pa_cons (pv 2) pa_nil)) (pa_cons pe_int pa_nil)) (by rfl))
      (pss_cons (ps_for PassesOwn.never rfl (pi_range1 rfl T.nRange (pa_cons (pe_call GT hr2 rfl T.gTake Ft.kp bt .nil pass0 (pa_cons (pv 1) (pa_cons pe_int pa_nil))) pa_nil)) (pg_name (i := 5) scLaw.nd rfl (Or.inl rfl))
        (pss_cons (ps_set (i := 6) scLaw.nd rfl (Or.inl rfl) (pe_call GT hr2 rfl T.gTake Ft.kp bt .nil pass0 (pa_cons (pv 1) (pa_cons pe_int pa_nil))))
        (pss_one (ps_if (PW.pt (pw_and (pt_cmpR op_eq (pv 6) pe_int (nomark _)) (pw_and1 (pt_cmpR op_lt (pe_callB call_len_seq rfl T.nLen PySem.boot_len (pa_cons (pe_fld (pv 3) rfl) pa_nil)) pe_int (nomark _)))))
          (pss_one (ps_expr (pe_meth (pv 3) T.clC T.mBegin GB hr3 bb .nil pass0 (pa_cons (pe_op op_add (pe_op op_mul (pe_callB call_len_seq rfl T.nLen PySem.boot_len (pa_cons (pe_fld (pv 3) rfl) pa_nil)) pe_int)
            (pe_call GT hr2 rfl T.gTake Ft.kp bt .nil pass0 (pa_cons (pv 1) (pa_cons pe_int pa_nil)))) pa_nil))))
          (pss_one (ps_if (PW.pt (pw_and (pt_cmpR op_lt (pv 6) pe_int (nomark _)) (pw_and1 (pt_cmpR (op_ne_nil hr.units0) (pe_fld (pv 3) rfl) (pe_lst pa_nil) (nomark _)))))
            (pss_cons (ps_set (i := 7) scLaw.nd rfl (Or.inl rfl) (pe_call GP hr3 rfl T.gPick Fp.kp bp .nil pass0 (pa_cons (pv 1) (pa_cons (pe_fld (pv 3) rfl) pa_nil))))
            (pss_cons (ps_if (pt_cmpR op_eq (pe_fld (pv 7) rfl) pe_str (nomark _))
                (pss_cons (ps_aug (i := 4) scLaw.nd rfl (Or.inl rfl) pe_int ip_add) (pss_one (ps_expr (pe_meth (pv 7) T.clS T.mAdd GA0 hr3 ba0 .nil pass0 (pa_cons (pv 4) pa_nil))))) pss_nil)
            (pss_one (ps_expr (pe_meth (pv 3) T.clC T.mCSend GS hr2 bs .nil pass0 (pa_cons (pe_call GT hr2 rfl T.gTake Ft.kp bt .nil pass0 (pa_cons (pv 1) (pa_cons (pe_callB call_len_seq rfl T.nLen PySem.boot_len (pa_cons (pe_fld (pv 3) rfl) pa_nil)) pa_nil))) pa_nil))))))
            (pss_one (ps_if (pt_cmpR op_eq (pv 6) pe_int (nomark _))
              (pss_one (ps_expr (pe_meth (pv 3) T.clC T.mCFlush GF hr2 bf .nil pass0 (pa_cons (pe_call GT hr2 rfl T.gTake Ft.kp bt .nil pass0 (pa_cons (pv 1) (pa_cons (pv 2) pa_nil))) pa_nil))))
              (pss_one (ps_if (pt_cmpR (op_ne_nil hr.units0) (pe_fld (pv 3) rfl) (pe_lst pa_nil) (nomark _))
                (pss_one (ps_expr (pe_meth (pv 3) T.clC T.mDeliver GD hr bd .nil pass0 (pa_cons (pe_call GT hr2 rfl T.gTake Ft.kp bt .nil pass0 (pa_cons (pv 1) (pa_cons (pe_callB call_len_seq rfl T.nLen PySem.boot_len (pa_cons (pe_fld (pv 3) rfl) pa_nil)) pa_nil)))
                  (pa_cons (pe_cmpR op_eq (pe_call GT hr2 rfl T.gTake Ft.kp bt .nil pass0 (pa_cons (pv 1) (pa_cons pe_int pa_nil))) pe_int (nomark _)) pa_nil))))) pss_nil))))))))))
      (pss_cons (ps_set (i := 8) scLaw.nd rfl (Or.inl rfl) (pe_meth0 (pv 3) T.clC T.mCSettled GE hr4 be .nil pass0))
      (pss_cons (ps_set (i := 9) scLaw.nd rfl (Or.inl rfl) (pe_listRg rfl rfl T.nList (prg_1 rfl T.nRange (pv 2))))
      (pss_cons (ps_while PassesOwn.never (PW.pt (pw_and (pt_cmpR op_gt (pe_callB call_len_seq rfl T.nLen PySem.boot_len (pa_cons (pv 9) pa_nil)) (pe_call GM hr1 rfl T.gMost Fm.kp bm .nil pass0 (pa_cons (pv 2) pa_nil)) (nomark _))
            (pw_and1 (pt_cmpR op_eq (pe_call GT hr2 rfl T.gTake Ft.kp bt .nil pass0 (pa_cons (pv 1) (pa_cons pe_int pa_nil))) pe_int (nomark _)))))
          (pss_one (ps_expr (pe_bm PySem.F.plainAttrs_list PySem.F.slot_list_pop PySem.F.type_list_pop mt_popAt (pv 9) (pa_cons (pe_call GT hr2 rfl T.gTake Ft.kp bt .nil pass0 (pa_cons (pv 1) (pa_cons (pe_callB call_len_seq rfl T.nLen PySem.boot_len (pa_cons (pv 9) pa_nil)) pa_nil))) pa_nil)))))
      (pss_cons (ps_set (i := 10) scLaw.nd rfl (Or.inl rfl) (pe_meth (pv 3) T.clC T.mBegin GB hr3 bb .nil pass0 (pa_cons pe_int pa_nil)))
      (pss_cons (ps_set (i := 11) scLaw.nd rfl (Or.inl rfl) (pe_ix ix_list (pe_fld (pv 3) rfl) (pv 10) (fun _ _ => rfl)))
      (pss_cons (ps_try_as (i := 12) (tb := fun W => tSeq (tDrop (tMethE a.cS "add" (spAdd K a) (WE W) (tVar 11) (tCons (tC (.str "early")) tNil))) (tRet (tC (.bl false))))
          (ts := fun x cls d => tIfS (tTest (tOp rNe (tByBad a.cB x cls d (tVar 12)) (tC (.str "early")))) (tRet (tC (.bl false))) tNext) (Wout := fun _ _ _ _ => False) rfl rfl scLaw.nd rfl rfl ⟨rfl, by decide, Or.inl T.bad.gC⟩ takes0
          (fun W pn xe tk _ => pss_cons (ps_expr (pe_methE (pv 11) T.clS T.mAdd GA hr3 ba (fun σ => passAt tk σ) (by exact (pa_cons pe_str pa_nil)))) (pss_one (ps_ret pe_bl)))
          (fun x oe cls d pn hz hf => pss_one (ps_if (by exact (pt_cmpR op_ne (pe_byBad T.bad hz hf (pv 12)) pe_str (nomark _))) (pss_one (ps_ret pe_bl)) pss_nil)))
      (pss_cons (ps_expr (pe_meth (pv 3) T.clC T.mExch GX hr bx .nil pass0 (pa_cons (pv 10) (pa_cons (pv 9) pa_nil))))
      (pss_cons (ps_if (PW.pt (pw_or (pt_cmpR op_ne (pe_fld (pv 11) rfl) pe_str (nomark _)) (pw_or1 (pt_cmpR (op_neD hu64) (pe_callTy call_tuple_of rfl T.nTuple (by decide +kernel)
          (pa_cons (pe_slice sl_list (pe_fld (pv 11) rfl) po_none (po_some (pe_callB call_len_seq rfl T.nLen PySem.boot_len (pa_cons (pv 8) pa_nil)))) pa_nil)) (pv 8) (nomark _))))) (pss_one (ps_ret pe_bl)) pss_nil)
      (pss_cons (ps_for PassesOwn.never rfl (pi_range1 rfl T.nRange (pa_cons pe_int pa_nil)) (pg_name (i := 5) scLaw.nd rfl (Or.inl rfl))
          (pss_one (ps_expr (pe_meth (pv 11) T.clS T.mAdd GA0 hr3 ba0 .nil pass0 (pa_cons (pe_tup (pa_cons pe_str (pa_cons (pv 5) pa_nil))) pa_nil)))))
      (pss_cons (ps_for PassesOwn.never rfl (pi_range1 rfl T.nRange (pa_cons (pe_callB call_len_seq rfl T.nLen PySem.boot_len (pa_cons (pe_fld (pv 11) rfl) pa_nil)) pa_nil)) (pg_name (i := 5) scLaw.nd rfl (Or.inl rfl))
          (pss_one (ps_expr (pe_meth (pv 3) T.clC T.mExch GX hr bx .nil pass0 (pa_cons (pv 10) (pa_cons (pv 9) pa_nil))))))
      (pss_cons (ps_if (PW.pt (pw_or (pt_cmpR (op_neD hu64) (pe_meth0 (pv 3) T.clC T.mCSettled GE hr4 be .nil pass0) (pe_callTy call_tuple_of rfl T.nTuple (by decide +kernel) (pa_cons (pe_fld (pv 11) rfl) pa_nil)) (nomark _))
          (pw_or1 (pt_cmpR (op_neD hu64) (pe_meth0 (pv 11) T.clS T.mSSettled GL hr2 bl .nil pass0) (pe_callTy call_tuple_of rfl T.nTuple (by decide +kernel) (pa_cons (pe_fld (pv 11) rfl) pa_nil)) (nomark _))))) (pss_one (ps_ret pe_bl)) pss_nil)
      (pss_cons (ps_for PassesOwn.never rfl (pi_list (pe_slice sl_list (pe_fld (pv 3) rfl) po_none (po_some (pe_un un_neg pe_int)))) (pg_name (i := 7) scLaw.nd rfl (Or.inl rfl))
          (pss_one (ps_if (pt_cmpR op_eq (pe_fld (pv 7) rfl) pe_str (nomark _))
            (pss_cons (ps_expr (pe_meth (pv 7) T.clS T.mAdd GA0 hr3 ba0 .nil pass0 (pa_cons pe_str pa_nil)))
            (pss_cons (ps_set (i := 13) scLaw.nd rfl (Or.inl rfl) (pe_bm PySem.F.plainAttrs_list PySem.F.slot_list_index PySem.F.type_list_index (mt_indexI hu1 T.sob T.seq) (pe_fld (pv 3) rfl) (pa_cons (pv 7) pa_nil)))
            (pss_cons (ps_for PassesOwn.never rfl (pi_range1 rfl T.nRange (pa_cons (pe_op op_add (pe_callB call_len_seq rfl T.nLen PySem.boot_len (pa_cons (pe_fld (pv 7) rfl) pa_nil)) pe_int) pa_nil)) (pg_name (i := 5) scLaw.nd rfl (Or.inl rfl))
                (pss_one (ps_expr (pe_meth (pv 3) T.clC T.mExch GX hr bx .nil pass0 (pa_cons (pv 13) (pa_cons (pv 9) pa_nil))))))
            (pss_one (ps_if (PW.pt (pw_or (pt_cmpR (op_neD hu64) (pe_meth0 (pv 3) T.clC T.mCSettled GE hr4 be .nil pass0) (pe_callTy call_tuple_of rfl T.nTuple (by decide +kernel) (pa_cons (pe_fld (pv 11) rfl) pa_nil)) (nomark _))
                (pw_or1 (PW.pt (pw_and (pt_cmpR op_ne (pe_fld (pv 7) rfl) pe_str (nomark _)) (pw_and1 (pt_cmpR (op_neD hu64) (pe_meth0 (pv 7) T.clS T.mSSettled GL hr2 bl .nil pass0)
                  (pe_slice sl_list (pe_callTy call_tuple_of rfl T.nTuple (by decide +kernel) (pa_cons (pe_fld (pv 11) rfl) pa_nil)) po_none (po_some (pe_callB call_len_seq rfl T.nLen PySem.boot_len (pa_cons (pe_meth0 (pv 7) T.clS T.mSSettled GL hr2 bl .nil pass0) pa_nil)))) (nomark _))))))))
                (pss_one (ps_ret pe_bl)) pss_nil))))) pss_nil)))
      (pss_one (ps_ret pe_bl))))))))))))))))), ?_⟩
    obtain ⟨Lp, SC⟩ := ScAt.of hS
    refine ⟨_, rfl, (by show 2 ≤ sizeLine; decide), fun d hd => ?_⟩
    have s1 := same_new (o := .lst [V.ref sa, V.int 0]) hd
    have D1 : DrawAt K Lp (upd H d (.lst [V.ref sa, V.int 0])) d sa ns := ⟨⟨0, Int.le_refl _, upd_same⟩, SC.at' (fun l => by rw [SC.open_ l]; exact s1 _ _ (SC.open_ l)) (Kept.of_same s1), hlen⟩
    generalize upd H d (.lst [V.ref sa, V.int 0]) = H1 at D1
    clear SC s1 hd hS
    refine ⟨_, rfl, Lp, d, sa, ns, 5, rfl, D1, by decide, fun r ys H2 hr5 D2 hd2 b2 => ⟨_, _, rfl, rfl, ?_⟩⟩
    obtain ⟨m, hm⟩ : ∃ m : Nat, (1 : Int) + (r : Nat) = (m : Nat) := ⟨r + 1, by omega⟩
    have hm5 : m ≤ 5 := by omega
    have hm0 : 0 < m := by omega
    show (tSeq _ _) _ [some (V.ref sa), some (V.ref d), some (V.int ((1 : Int) + (r : Nat))), none, none, none, none, none, none, none, none, none, none, none] H2
    rw [hm]
    clear hm hr5
    obtain ⟨G, hG⟩ : ∃ G : Addr → Prop, G = fun b => b = d ∨ (b = sa ∧ Lp) := ⟨_, rfl⟩
    have gd : G d := by rw [hG]; exact .inl rfl
    have gs : Lp → G sa := fun l => by rw [hG]; exact .inr ⟨rfl, l⟩
    refine ⟨_, rfl, fun x dx hx hdx hxd => ?_⟩
    have s2 : Same H2 (upd (upd H2 dx (.own x)) x (.ins a.cC dx [])) := fun b o h => by
      rw [upd_ne (ne_of_none h hx), upd_ne (ne_of_none h hdx)]
      exact h
    refine ⟨x, dx, m, G, rfl, upd_same, by omega, fun b hb => ?_, fun W H3 ew c3 fr3 => ⟨rfl, ?_⟩⟩
    · rw [hG] at hb
      rcases hb with rfl | ⟨rfl, l⟩
      · exact ⟨_, s2 _ _ hd2⟩
      · exact ⟨_, s2 _ _ (D2.sc.open_ l)⟩
    subst ew
    have D3 := (D2.same s2).fr fr3 gd gs
    clear fr3 s2 D2 b2 hd2 ys hx hdx hxd hG
    refine ⟨_, _, rfl, ?_⟩
    -- the drawn steps
    refine ⟨_, rfl, Lp, d, sa, ns, 60, rfl, D3, by decide, fun n ys H4 hn D4 hd4 b4 => ⟨_, rfl, by omega, by omega, ?_⟩⟩
    have c4 := c3.own gd b4 hd4
    clear b4 hd4 ys D3
    rw [Int.toNat_natCast]
    generalize hc0 : W.c = c0
    refine for_range (fun i σ H' => ∃ (v5 v6 v7 : Option V) (word : Int) (W : Wd) (ks : List Kp) (ss : List Sq) (ls : List Let), σ = [some (.ref sa), some (.ref d), some (.int (m : Nat)), some (.ref c0), some (.int word), v5, v6, v7, none, none, none, none, none, none] ∧
      W.c = c0 ∧ CouAt K a m G H' W ks ss ls ∧ Dr m (2 * i) ks ss ls ∧ DrawAt K Lp H' d sa ns) ⟨none, none, none, 0, W, _, [], [], rfl, hc0, c4, Dr.start m, D4⟩ ?_ ?_
    · clear c4 c3 hc0 W D4
      rintro i σ H5 hi ⟨v5, v6, v7, word, W, ks, ss, ls, rfl, rfl, c5, dr, D5⟩
      -- the kind
      refine ⟨_, rfl, Lp, d, sa, ns, 7, rfl, D5, by decide, fun kd ys H6 hk D6 hd6 b6 => ?_⟩
      have c6 := c5.own gd b6 hd6
      clear b6 hd6 ys D5 c5
      obtain ⟨dx6, hob6⟩ := c6.ob
      have hql := c6.qlen
      have hpl : (W.qa.map fun q => V.ref q.p).length = ss.length := by rw [List.length_map]; exact hql
      have few := dr.few
      refine gname_ ?_
      dsimp only
      refine if_and (decide (kd = 0)) (decide (ss.length < 4)) (fun Q q => ⟨_, rfl, rfl, _, rfl, ?_⟩) (fun Q q => ⟨_, rfl, W.c, _, dx6, _, _, rfl, hob6, T.clC, T.nCs, rfl, W.sl, _, rfl, .inl (SqL.of c6.sls), _, _, rfl, rfl, _, rfl, ?_⟩) (fun hb1 hb2 H7 s7 => ?_) (fun hb H7 s7 => ?_)
      · have e : decide (V.int ((kd : Nat) : Int) = V.int 0) = decide (kd = 0) := decide_eq_decide.mpr ⟨fun h => by injection h with h; omega, fun h => by rw [h]; rfl⟩
        rw [e]
        exact q
      · have e : decide ((((W.qa.map fun q => V.ref q.p).length : Nat) : Int) < 4) = decide (ss.length < 4) := decide_eq_decide.mpr (by rw [hpl]; omega)
        rw [e]
        exact q _ (Same.refl _)
      · -- begin
        have hl4 := of_decide_eq_true hb2
        have c7 := c6.same s7
        have D7 := D6.same s7
        obtain ⟨dx7, hob7⟩ := c7.ob
        refine ⟨_, rfl, W.c, dx7, _, rfl, hob7, rfl, _, rfl, W.c, _, dx7, _, _, rfl, hob7, T.clC, T.nCs, rfl, W.sl, _, rfl, .inl (SqL.of c7.sls), _, _, rfl, rfl, .inr (by decide), _, rfl, Lp, d, sa, ns, 3, rfl, D7, by decide, fun r2 ys H8 hr3 D8 hd8 b8 => ⟨_, _, rfl, rfl, ?_⟩⟩
        have c8 := c7.own gd b8 hd8
        have ee : (((W.qa.map fun q => V.ref q.p).length : Nat) : Int) * 3 + ((r2 : Nat) : Int) = 3 * ((ss.length : Nat) : Int) + ((r2 : Nat) : Int) := by rw [hpl]; omega
        obtain ⟨hne, dr2⟩ := dr.begin (e := 3 * ((ss.length : Nat) : Int) + ((r2 : Nat) : Int)) (by omega) (by omega) hl4
        refine ⟨m, G, W, ks, ss, ls, 3 * ((ss.length : Nat) : Int) + ((r2 : Nat) : Int), by rw [← ee]; rfl, c8, dr.inv.klen, by omega, by omega, by omega, hne, by omega, fun W' H9 ew c9 fr9 => ?_⟩
        exact ⟨_, _, _, word, W', ks, _, ls, rfl, ew, c9, dr2.mono (by omega), D8.fr fr9 gd gs⟩
      · clear hb
        have c7 := c6.same s7
        have D7 := D6.same s7
        clear c6 D6 hob6 s7
        obtain ⟨dx7, hob7⟩ := c7.ob
        refine if_and (decide (kd < 3)) (!(W.qa.map fun q => V.ref q.p).isEmpty) (fun Q q => ⟨_, rfl, _, _, rfl, rfl, _, rfl, ?_⟩)
          (fun Q q => ⟨_, rfl, W.c, _, dx7, _, _, rfl, hob7, T.clC, T.nCs, rfl, (by show 0 ≤ sizeLine; decide), fun f hf => ⟨W.sl, f, _, rfl, rfl, (same_new hf).seq (SqL.of c7.sls), SqL.of upd_same, _, rfl, q _ (same_new hf)⟩⟩) (fun hb1 hb2 H8 s8 => ?_) (fun hb H8 s8 => ?_)
        · have e : decide (((kd : Nat) : Int) < 3) = decide (kd < 3) := decide_eq_decide.mpr (by omega)
          rw [e]
          exact q
        · -- one adds, one sends
          have c8 := c7.same s8
          have D8 := D7.same s8
          clear c7 D7 hob7 s8
          obtain ⟨dx8, hob8⟩ := c8.ob
          refine ⟨_, rfl, _, rfl, W.c, _, dx8, _, _, rfl, hob8, T.clC, T.nCs, rfl, Lp, d, sa, W.sl, ns, _, rfl, D8, (c8.gd d gd).2.2.1.symm, c8.sls, ?_, fun i1 x ys H9 hx D9 hd9 b9 => ?_⟩
          · intro z
            rw [z] at hb2
            exact absurd hb2 (by decide)
          have c9 := c8.own gd b9 hd9
          rw [List.getElem?_map] at hx
          obtain ⟨q1, hq1, rfl⟩ := Option.map_eq_some_iff.mp hx
          obtain ⟨sq, hsq, SA⟩ := c9.sq_of hq1
          obtain ⟨dq, _, _, g1, _⟩ := id SA
          refine gname_ ?_
          dsimp only
          refine seq_if (R := fun σ' H' => ∃ (word : Int) (ss' : List Sq), σ' = [some (.ref sa), some (.ref d), some (.int (m : Nat)), some (.ref W.c), some (.int word), some (.int (0 + (i : Nat))), some (.int (kd : Nat)), some (.ref q1.p), none, none, none, none, none, none] ∧
              CouAt K a m G H' W ks ss' ls ∧ ss'.length = ss.length ∧ Dr m (2 * i + 1) ks ss' ls ∧ DrawAt K Lp H' d sa ns) (decide (sq.stand = .leading)) (fun Q qq => ⟨_, rfl, q1.p, _, dq, _, _, rfl, g1, T.clS, T.nSs, rfl, rfl, _, rfl, ?_⟩) ?_ (fun hb N hN => ?_) (fun hb => ?_)
          · show Q (decide (V.str sq.stand.str = V.str Stand.leading.str)) _
            rw [stand_eq]
            exact qq
          · rintro σ' H10 ⟨word', ss', rfl, c10, el, dr10, D10⟩
            obtain ⟨dx10, hob10⟩ := c10.ob
            refine ⟨_, rfl, W.c, dx10, _, rfl, hob10, rfl, _, rfl, _, rfl, W.c, _, dx10, _, _, rfl, hob10, T.clC, T.nCs, rfl, W.sl, _, rfl, .inl (SqL.of c10.sls), Lp, d, sa, ns, _, rfl, D10, ?_, fun r2 ys H11 hr2 D11 hd11 b11 => ?_⟩
            · rw [hpl]
              have := (List.getElem?_eq_some_iff.mp hsq).1
              omega
            have c11 := c10.own gd b11 hd11
            rw [hpl] at hr2
            obtain ⟨s2, hs2⟩ : ∃ s2, ss'[r2]? = some s2 := ⟨_, List.getElem?_eq_getElem (by omega)⟩
            refine ⟨m, G, W, ks, ss', ls, r2, s2, rfl, c11, by omega, hs2, (dr10.inv.sq s2 (List.mem_of_getElem? hs2)).tlen, by have := dr10.bd.len; omega, fun H12 c12 fr12 => ?_⟩
            exact ⟨_, _, _, word', W, ks, ss', _, rfl, rfl, c12, (dr10.send hs2 (by omega)).mono (by omega), D11.fr fr12 gd gs⟩
          · have hl := of_decide_eq_true hb
            refine ⟨_, rfl, _, _, rfl, rfl, ?_⟩
            have hbr := (dr.bd.sq sq (List.mem_of_getElem? hsq)).row
            refine ⟨_, rfl, q1.p, dq, _, rfl, g1, rfl, _, rfl, m, q1, sq, _, .num (word + 1), rfl, SA, .int _, by omega, hl, fun H10 S10 b10 => ?_⟩
            obtain ⟨c10, fr10⟩ := c9.row hq1 S10 b10
            exact hN _ _ ⟨word + 1, _, rfl, c10, by rw [List.length_set], (dr.add hsq hl _), D9.fr fr10 gd gs⟩
          · exact ⟨word, ss, rfl, c9, rfl, dr.mono (by omega), D9⟩
        · clear hb
          have c8 := c7.same s8
          have D8 := D7.same s8
          clear c7 D7 hob7 s8
          obtain ⟨dx8, hob8⟩ := c8.ob
          refine ⟨_, rfl, rfl, _, rfl, ?_⟩
          by_cases k3 : kd = 3
          · -- a keeper settles
            rw [decide_eq_true (show V.int ((kd : Nat) : Int) = V.int 3 by rw [k3]; rfl)]
            refine iteT ⟨_, rfl, W.c, dx8, _, rfl, hob8, rfl, _, rfl, _, rfl, Lp, d, sa, ns, _, rfl, D8, by omega, fun r2 ys H9 hr2 D9 hd9 b9 => ?_⟩
            have c9 := c8.own gd b9 hd9
            obtain ⟨kp, hkp⟩ : ∃ kp, ks[r2]? = some kp := ⟨_, List.getElem?_eq_getElem (by rw [dr.inv.klen]; omega)⟩
            refine ⟨m, G, W, ks, ss, ls, r2, kp, rfl, c9, hkp, (dr.bd.kp kp (List.mem_of_getElem? hkp)).mono (by omega), by have := dr.bd.len; omega, fun H10 c10 fr10 => ?_⟩
            exact ⟨_, _, _, word, W, _, ss, _, rfl, rfl, c10, (dr.flush hkp (by omega)).mono (by omega), D9.fr fr10 gd gs⟩
          · rw [decide_eq_false (show ¬ V.int ((kd : Nat) : Int) = V.int 3 from fun h => k3 (by injection h with h; omega))]
            refine iteF ?_
            obtain ⟨lv, hlv, tlv⟩ := c8.lls
            have hlvl := tlv.len
            rw [List.length_map] at hlvl
            refine ⟨_, rfl, W.c, _, dx8, _, _, rfl, hob8, T.clC, T.nCl, rfl, (by show 0 ≤ sizeLine; decide), fun f hf => ⟨W.ll, f, _, rfl, rfl, (same_new hf).seq (SqL.of hlv), SqL.of upd_same, _, rfl, ?_⟩⟩
            have s9 := same_new (o := .lst []) hf
            have c9 := c8.same s9
            have D9 := D8.same s9
            generalize upd H8 f (.lst []) = H9 at c9 D9 s9 ⊢
            cases hls : lv with
            | nil => exact iteF ⟨_, _, _, word, W, ks, ss, ls, rfl, rfl, c9, dr.mono (by omega), D9⟩
            | cons l0 lr =>
              -- a letter comes
              have hlpos : 0 < lv.length := by rw [hls]; exact Nat.succ_pos _
              obtain ⟨dx9, hob9⟩ := c9.ob
              have hlv9 := s9 _ _ hlv
              refine iteT ⟨_, rfl, W.c, dx9, _, rfl, hob9, rfl, _, rfl, _, rfl, W.c, _, dx9, _, _, rfl, hob9, T.clC, T.nCl, rfl, W.ll, lv, rfl, .inl (SqL.of hlv9), Lp, d, sa, ns, _, rfl, D9, by omega, fun r2 ys H10 hr2 D10 hd10 b10 => ?_⟩
              have c10 := c9.own gd b10 hd10
              refine ⟨_, rfl, Lp, d, sa, ns, 4, rfl, D10, by decide, fun r3 ys3 H11 hr3 D11 hd11 b11 => ?_⟩
              have c11 := c10.own gd b11 hd11
              obtain ⟨LL, hLL⟩ : ∃ LL, ls[r2]? = some LL := ⟨_, List.getElem?_eq_getElem (by omega)⟩
              refine ⟨rfl, m, G, W, ks, ss, ls, r2, _, LL, rfl, c11, dr.inv, dr.bd.mono (by omega), by omega, by have := dr.bd.len; omega, hLL, fun W' H12 ew c12 fr12 => ?_⟩
              exact ⟨_, _, _, word, W', _, _, _, rfl, ew, c12, (dr.deliver hLL _).mono (by omega), D11.fr fr12 gd gs⟩
    · clear c4 c3 hc0 W D4
      rintro σ H5 ⟨v5, v6, v7, word, W, ks, ss, ls, rfl, rfl, c5, dr, D5⟩
      have dr := dr.mono (B' := 120) (by omega)
      clear hn
      obtain ⟨dx5, hob5⟩ := c5.ob
      -- before
      refine ⟨_, rfl, W.c, dx5, _, rfl, hob5, rfl, m, G, W, ks, ss, ls, rfl, c5, fewOf dr.inv dr.bd (by omega) (by omega), fun t r H6 tt sr s6 => ?_⟩
      rw [dr.inv.klen] at sr
      have c6 := c5.same s6
      have D6 := D5.same s6
      clear s6 c5 D5 hob5
      -- who is up
      refine ⟨_, rfl, _, rfl, RgOk.of_le (by omega) (by omega) (by omega) (by omega), fun u hu => ?_⟩
      have s7 := same_new (o := .lst (rgV 0 (m : Nat))) hu
      have hrg : rgV 0 ((m : Nat) : Int) = upV (List.range m) := by
        unfold rgV upV
        rw [List.map_map, Int.sub_zero, Int.toNat_natCast]
        refine List.map_congr_left fun n _ => ?_
        show V.int (0 + (n : Nat)) = V.int (n : Nat)
        rw [Int.zero_add]
      have c7 := c6.guard s7 hu upd_same
      have D7 := D6.same s7
      have hu7 : (upd H6 u (.lst (rgV 0 (m : Nat)))) u = some (.lst (upV (List.range m))) := by
        rw [← hrg]
        exact upd_same
      have tt7 := tt.at (Kept.of_same s7)
      have hdu : d ≠ u := by
        obtain ⟨c, _, e⟩ := D6.at_
        exact ne_of_none e hu
      have hsu : Lp → sa ≠ u := fun l => ne_of_none (D6.sc.open_ l) hu
      refine gname_ ?_
      generalize upd H6 u (.lst (rgV 0 (m : Nat))) = H7 at c7 D7 hu7 tt7 ⊢
      clear s7 hrg c6 D6 hu tt H6
      obtain ⟨G2, hG2⟩ : ∃ G2 : Addr → Prop, G2 = fun b => G b ∨ b = u := ⟨_, rfl⟩
      rw [← hG2] at c7
      have gd2 : G2 d := by rw [hG2]; exact .inl gd
      have gs2 : Lp → G2 sa := fun l => by rw [hG2]; exact .inl (gs l)
      have gu : G2 u := by rw [hG2]; exact .inr rfl
      clear hG2 gd gs
      clear G
      dsimp only
      refine seq_of (fun σ' H' => ∃ up : List Nat, σ' = [some (.ref sa), some (.ref d), some (.int (m : Nat)), some (.ref W.c), some (.int word), v5, v6, v7, some t, some (.ref u), none, none, none, none] ∧ H' u = some (.lst (upV up)) ∧ Up m up ∧ CouAt K a m G2 H' W ks ss ls ∧
        DrawAt K Lp H' d sa ns ∧ Tp K H' t (.tuple (r.map Ent.d))) ?_ fun N hN => ?_
      · clear c7 D7 hu7 tt7 H7
        rintro σ H7 ⟨up, rfl, hu7, U, c7, D7, tt7⟩
        obtain ⟨dx7, hob7⟩ := c7.ob
        -- a sequencer of a greater epoch
        have hlow : ∀ s ∈ ss, s.ep < 50 := fun s hs => by
          have := dr.low s hs
          have := dr.few
          omega
        have hne : ∀ s ∈ ss, s.ep ≠ 50 := fun s hs => by
          have := hlow s hs
          omega
        obtain ⟨_, I8⟩ := dr.inv.begin (e := 50) (by decide) hne
        have B8 := dr.bd.begin (m := m) 50
        refine ⟨_, rfl, W.c, dx7, _, rfl, hob7, rfl, m, G2, W, ks, ss, ls, 50, rfl, c7, dr.inv.klen, by omega, by decide, by decide, hne, by have := dr.few; omega, fun W8 H8 ew8 c8 fr8 => ?_⟩
        have hu8 : H8 u = some (.lst (upV up)) := by rw [fr8.1 u gu]; exact hu7
        have tt8 := tt7.at fr8.2
        have few := dr.few
        have hmax : ∀ (i : Nat) s, (ss ++ [fresh m 50])[i]? = some s → i ≠ ss.length → s.ep < 50 := fun i s hi hn => by
          have hl := (List.getElem?_eq_some_iff.mp hi).1
          simp at hl
          rw [List.getElem?_append_left (by omega)] at hi
          exact hlow s (List.mem_of_getElem? hi)
        have hj8 : (ss ++ [fresh m 50])[ss.length]? = some (fresh m 50) := by simp
        have hl8 : (ss ++ [fresh m 50]).length = ss.length + 1 := by simp
        rw [← ew8]
        clear D7 tt7 hu7 c7 hob7 fr8 ew8 H7
        generalize ss ++ [fresh m 50] = ss8 at *
        generalize ss.length = j at *
        clear hlow hne dr
        obtain ⟨q8, hq8, SA8⟩ := c8.at_q hj8
        obtain ⟨dx8, hob8⟩ := c8.ob
        obtain ⟨dq8, _, _, g8, _⟩ := id SA8
        generalize hPV : (W8.qa.map fun q => V.ref q.p) = PV
        have hPj : PV[j]? = some (V.ref q8.p) := by
          rw [← hPV, List.getElem?_map, hq8]
          rfl
        refine ⟨_, rfl, W8.c, _, dx8, _, _, rfl, hob8, T.clC, T.nCs, rfl, _, rfl, W8.sl, _, _, V.ref q8.p, rfl, rfl, SqL.of c8.sls, atI_nat (by rw [hPV]; exact hPj), ?_⟩
        -- try
        refine ⟨_, rfl, q8.p, dq8, _, rfl, g8, rfl, m, q8, fresh m 50, _, rfl, SA8, (by intro z; cases z), fun d2 hd2 => ⟨true, T.te, fun _ a0 ha0 => ?_, fun z => Bool.noConfusion z⟩⟩
        refine ⟨_, rfl, rfl, rfl, d2, _, rfl, upd_same, rfl, _, rfl, ?_⟩
        refine iteF ?_
        have s9 := same_new (o := .xd [(("name" : Str), V.str "early")]) hd2
        have c9 := c8.same s9
        have hu9 := s9 _ _ hu8
        have tt9 := tt8.at (Kept.of_same s9)
        generalize upd H8 d2 (.xd [(("name" : Str), V.str "early")]) = H9 at c9 hu9 tt9
        -- one exchange
        obtain ⟨dx9, hob9⟩ := c9.ob
        refine ⟨_, rfl, W8.c, dx9, _, rfl, hob9, rfl, _, rfl, _, rfl, m, G2, W8, ks, ss8, ls, j, fresh m 50, u, up, rfl, c9, gu, hu9, U.lt, I8, B8.mono (by omega), by omega, hj8, fun W10 H10 ew10 ep10 c10 fr10 => ?_⟩
        rw [hPV] at ep10
        obtain ⟨L, hL, heL, hst, htk, C10, hlen10, hlow10⟩ := takes_over I8 U hj8 hmax
        have I10 := (I8.exch (j := j) (up := up)).2
        have B10 := B8.exch (m := m) (j := j) up
        have gr10 := exch_recs m j up ks ss8
        have hu10 : H10 u = some (.lst (upV up)) := by rw [fr10.1 u gu]; exact hu9
        have tt10 := tt9.at fr10.2
        rw [← ew10]
        generalize exch m j up ks ss8 = ex at *
        obtain ⟨ks10, ss10⟩ := ex
        obtain ⟨q10, hq10, SA10⟩ := c10.at_q hL
        have ep : q10.p = q8.p := p_of ep10 hq10 hPj
        obtain ⟨dq, kv, xs, g1, g2, g3, g4, g5, g6⟩ := id SA10
        rw [ep] at g1
        have hxl := g5.len
        rw [List.length_map] at hxl
        -- if leader.stand != "leading" or tuple(leader.row[:len(before)]) != before
        refine ⟨_, rfl, q8.p, _, dq, _, _, rfl, g1, T.clS, T.nSs, rfl, rfl, _, rfl, ?_⟩
        show (if (!decide (V.str L.stand.str = V.str Stand.leading.str)) = true then _ else _)
        rw [stand_eq, decide_eq_true hst]
        refine iteF ?_
        obtain ⟨ta, rv, rfl, hta, hrv⟩ := tp_tup tt10
        have hrl := hrv.len
        rw [List.length_map] at hrl
        refine ⟨_, rfl, q8.p, _, dq, _, _, rfl, g1, T.clS, T.nSw, rfl, _, rfl, ta, rv, rfl, .inr hta, _, rfl, q10.rl, xs, rfl, SqL.of g4, fun p1 hp1 => ?_⟩
        have s11 := same_new (o := .lst (cutV xs none (some ((rv.length : Nat) : Int)))) hp1
        refine ⟨p1, _, rfl, .inl ⟨SqL.of upd_same, fun p2 hp2 => ?_⟩⟩
        have s12 := same_new (o := .tup (cutV xs none (some ((rv.length : Nat) : Int)))) hp2
        have s112 := s11.trans s12
        have ecut : cutV xs none (some ((rv.length : Nat) : Int)) = xs.take r.length := by
          rw [hrl]
          exact cut_take xs r.length
        have hp2' : (upd (upd H10 p1 (.lst (cutV xs none (some ((rv.length : Nat) : Int))))) p2 (.tup (cutV xs none (some ((rv.length : Nat) : Int))))) p2 = some (.tup (xs.take r.length)) := by
          rw [← ecut]
          exact upd_same
        have tcut := (g5.at (Kept.of_same s112)).take r.length
        rw [← List.map_take] at tcut
        have bin : L.row.take r.length = r := before_in I10 hL heL hst hlow10 (fun e p x h => Nat.le_trans h (gr10.takers e p x)) sr
        rw [bin] at tcut
        refine ⟨_, rfl, .tuple (r.map Ent.d), .tuple (r.map Ent.d), .tup (SqT.of hp2') (TpAll.dp _ _ tcut), Tp.dp _ _ (tt10.at (Kept.of_same s112)), tup_shaped ent_lay ent_depth (by decide) r, tup_shaped ent_lay ent_depth (by decide) r, _, rfl, ?_⟩
        rw [ents_eqv, decide_eq_true rfl]
        refine iteF ?_
        have c12 := c10.same s112
        have hu12 := s112 _ _ hu10
        generalize upd (upd H10 p1 (.lst (cutV xs none (some ((rv.length : Nat) : Int))))) p2 (.tup (cutV xs none (some ((rv.length : Nat) : Int)))) = H12 at c12 hu12
        have R0 := Round.start U hL heL hst htk C10 hlow10
        have hsl10 : ss10.length = j + 1 := by rw [← hl8]; exact hlen10
        have hBm : 120 + m ≤ 125 := by omega
        have B12 := B10.mono (B' := 125) hBm
        clear s112 hp2' tcut bin s11 s12 hp2 hp1 tt10 hta hrv hrl sr g1 g2 g3 g4 g5 g6 hxl SA10 C10 hlow10 hlen10 htk heL hst B10 gr10 hl8 hmax hj8 I8 B8 c9 c10
        -- three new entries
        refine ⟨3, rfl, by decide, by decide, ?_⟩
        refine for_range (fun i σ H' => ∃ (v5 : Option V) (ss : List Sq), σ = [some (.ref sa), some (.ref d), some (.int (m : Nat)), some (.ref W10.c), some (.int word), v5, v6, v7, some (.ref ta), some (.ref u), some (.int (j : Nat)), some (.ref q8.p), none, none] ∧
          CouAt K a m G2 H' W10 ks10 ss ls ∧ H' u = some (.lst (upV up)) ∧ Round m up j 50 (L.row ++ (List.range i).map fun t => Ent.new (0 + (t : Nat))) 0 ks10 ss ∧ Inv m ks10 ss ls ∧ Bd (125 + i) ks10 ss ls ∧ ss.length = j + 1)
          ⟨v5, ss10, rfl, c12, hu12, by rw [List.range_zero, List.map_nil, List.append_nil]; exact R0, I10, B12, hsl10⟩ ?_ ?_
        · rintro i σ H' hi ⟨v5', ss, rfl, c, hu', R, I, B, hsl⟩
          obtain ⟨⟨L', h1, h2, h3, h4, h5⟩, _, _⟩ := id R
          obtain ⟨q, hq, SA⟩ := c.at_q h1
          have ep' : q.p = q8.p := p_of ep10 hq hPj
          obtain ⟨dq', _, _, g1, _⟩ := id SA
          rw [ep'] at g1
          have hi3 : i < 3 := hi
          have hrow := (B.sq L' (List.mem_of_getElem? h1)).row
          refine ⟨_, rfl, q8.p, dq', _, rfl, g1, rfl, _, rfl, (by show 2 ≤ sizeLine; decide), fun t ht => ?_⟩
          have s13 := same_new (o := .tup [V.str "new", V.int (0 + (i : Nat))]) ht
          have c13 := c.same s13
          refine ⟨m, q, L', .ref t, .new (0 + (i : Nat)), by rw [ep']; rfl, SA.same s13, mk2 (SqT.of upd_same) (.str _) (.int _), by omega, h3, fun H'' S'' b'' => ?_⟩
          obtain ⟨c14, fr14⟩ := c13.row hq S'' b''
          refine ⟨_, _, rfl, c14, ?_, ?_, (I.add h1 (.new (0 + (i : Nat))) h3).2, B.add h1 _, by rw [List.length_set]; exact hsl⟩
          · rw [fr14.1 u gu]
            exact s13 _ _ hu'
          · have := R.add h1 (.new (0 + (i : Nat)))
            rw [List.range_succ, List.map_append, ← List.append_assoc]
            exact this
        · clear c12 hu12 R0 I10 B12 hsl10
          rintro σ H' ⟨v5', ss, rfl, c, hu', R, I, B, hsl⟩
          have B := B.mono (B' := 130) (by decide)
          generalize L.row ++ (List.range (3 : Int).toNat).map (fun t => Ent.new (0 + (t : Nat))) = RR at R
          obtain ⟨⟨L', h1, h2, h3, h4, h5⟩, _, _⟩ := id R
          obtain ⟨q, hq, SA⟩ := c.at_q h1
          have ep' : q.p = q8.p := p_of ep10 hq hPj
          obtain ⟨dq', _, xs', g1, _, _, g4, g5, _⟩ := id SA
          rw [ep'] at g1
          have hxl' : xs'.length = RR.length := by
            have := g5.len
            rw [List.length_map, h4] at this
            exact this
          have hRR : RR.length ≤ 130 := by
            have := (B.sq L' (List.mem_of_getElem? h1)).row
            rw [h4] at this
            exact this
          -- as many exchanges as it has entries
          refine ⟨_, rfl, q8.p, _, dq', _, _, rfl, g1, T.clS, T.nSw, rfl, q.rl, xs', rfl, .inl (SqL.of g4), _, rfl, by omega, by omega, ?_⟩
          rw [Int.toNat_natCast, hxl']
          refine for_range (fun i σ H' => ∃ (v5 : Option V) (W : Wd) (ks : List Kp) (ss : List Sq), σ = [some (.ref sa), some (.ref d), some (.int (m : Nat)), some (.ref W10.c), some (.int word), v5, v6, v7, some (.ref ta), some (.ref u), some (.int (j : Nat)), some (.ref q8.p), none, none] ∧
            W.c = W10.c ∧ (W.qa.map fun q => V.ref q.p) = PV ∧ CouAt K a m G2 H' W ks ss ls ∧ H' u = some (.lst (upV up)) ∧ Round m up j 50 RR i ks ss ∧ Inv m ks ss ls ∧ Bd (130 + i * 5) ks ss ls ∧ ss.length = j + 1)
            ⟨v5', W10, ks10, ss, rfl, rfl, ep10, c, hu', ?_, I, B.mono (by omega), hsl⟩ ?_ ?_
          · exact ⟨⟨L', h1, h2, h3, h4, fun n hn => (h5 n hn)⟩, R.low, R.keep⟩
          · clear c hu' R I B hsl h1 h2 h3 h4 h5 hq SA ep' g1 g4 g5
            rintro i σ H' hi ⟨v5', W, ks, ss, rfl, ew, epp, c, hu', R, I, B, hsl⟩
            obtain ⟨⟨L', h1, h2, h3, h4, h5⟩, _, _⟩ := id R
            obtain ⟨dx', hob⟩ := c.ob
            rw [ew] at hob
            refine ⟨_, rfl, W10.c, dx', _, rfl, hob, rfl, _, rfl, _, rfl, m, G2, W, ks, ss, ls, j, L', u, up, by rw [ew]; rfl, c, gu, hu', U.lt, I, B.mono (by omega), by omega, h1, fun W' H'' ew' epp' c' fr' => ?_⟩
            obtain ⟨R', _, hl'⟩ := R.step I U hi
            refine ⟨_, W', _, _, rfl, ew'.trans ew, epp'.trans epp, c', ?_, R', (I.exch).2, (B.exch up).mono (by omega), by rw [hl']; exact hsl⟩
            rw [fr'.1 u gu]
            exact hu'
          · clear c hu' R I B hsl h1 h2 h3 h4 h5 hq SA ep' g1 g4 g5 hxl' v5'
            rintro σ H' ⟨v5', W, ks, ss, rfl, ew, epp, c, hu', R, I, B, hsl⟩
            have B := B.mono (B' := 1000) (by omega)
            obtain ⟨⟨L', h1, h2, h3, h4, h5⟩, _, _⟩ := id R
            obtain ⟨dx', hob⟩ := c.ob
            rw [ew] at hob
            obtain ⟨q, hq, SA⟩ := c.at_q h1
            have ep' : q.p = q8.p := p_of epp hq hPj
            obtain ⟨dq', _, xs', g1, _, _, g4, g5, _⟩ := id SA
            rw [ep'] at g1
            rw [h4] at g5
            -- all of its row is settled, and it knows
            refine ⟨_, rfl, W10.c, dx', _, rfl, hob, rfl, m, G2, W, ks, ss, ls, by rw [ew]; rfl, c, fewOf I B (by omega) (by omega), fun t1 r1 H1' tt1 sr1 s1' => ?_⟩
            rw [I.klen] at sr1
            have e1 : r1 = RR := settled_is I U R sr1
            subst e1
            refine ⟨_, rfl, q8.p, _, dq', _, _, rfl, s1' _ _ g1, T.clS, T.nSw, rfl, q.rl, xs', rfl, .inl ⟨SqL.of (s1' _ _ g4), fun p1 hp1 => ?_⟩⟩
            have s2' := same_new (o := .tup xs') hp1
            have g5' := (g5.at (Kept.of_same s1')).at (Kept.of_same s2')
            refine ⟨.tuple (r1.map Ent.d), .tuple (r1.map Ent.d), Tp.dp _ _ (tt1.at (Kept.of_same s2')), .tup (SqT.of upd_same) (TpAll.dp _ _ g5'), tup_shaped ent_lay ent_depth (by decide) r1, tup_shaped ent_lay ent_depth (by decide) r1, _, rfl, ?_⟩
            rw [ents_eqv, decide_eq_true rfl]
            refine iteF ?_
            have s12' := s1'.trans s2'
            generalize upd H1' p1 (.tup xs') = H2' at s2' s12' g5'
            refine ⟨_, rfl, q8.p, dq', _, rfl, s12' _ _ g1, rfl, m, q, L', by rw [ep']; rfl, SA.same s12', by omega, hm0, (I.sq L' (List.mem_of_getElem? h1)).tlen, fun t2 cs cc H3' hper hsor hcc tt2 s3' => ?_⟩
            rw [R.knows I U h1 hper hsor hcc] at tt2
            have s13' := s12'.trans s3'
            refine ⟨_, rfl, q8.p, _, dq', _, _, rfl, s13' _ _ g1, T.clS, T.nSw, rfl, q.rl, xs', rfl, .inl ⟨SqL.of (s13' _ _ g4), fun p2 hp2 => ?_⟩⟩
            have s4' := same_new (o := .tup xs') hp2
            have g6' := (g5.at (Kept.of_same s13')).at (Kept.of_same s4')
            refine ⟨.tuple (r1.map Ent.d), .tuple (r1.map Ent.d), Tp.dp _ _ (tt2.at (Kept.of_same s4')), .tup (SqT.of upd_same) (TpAll.dp _ _ g6'), tup_shaped ent_lay ent_depth (by decide) r1, tup_shaped ent_lay ent_depth (by decide) r1, _, rfl, ?_⟩
            rw [ents_eqv, decide_eq_true rfl]
            refine iteF ?_
            have s14' := s13'.trans s4'
            have c14 := c.same s14'
            have hu14 := s14' _ _ hu'
            generalize upd H3' p2 (.tup xs') = H4' at c14 hu14
            clear s14' s4' g6' hp2 s13' s3' tt2 hcc hsor hper s12' s2' g5' hp1 sr1 tt1 s1' g1 g4 g5 SA hq hob c hu'
            -- elder leaders
            obtain ⟨dx14, hob14⟩ := c14.ob
            rw [ew] at hob14
            refine ⟨_, rfl, W10.c, _, dx14, _, _, rfl, hob14, T.clC, T.nCs, rfl, 1, rfl, _, rfl, W.sl, _, rfl, SqL.of c14.sls, fun fl hfl => ?_⟩
            rw [epp, cut_last]
            have hPl : PV.length = j + 1 := by
              rw [← epp, List.length_map, c14.qlen]
              exact hsl
            have hPl2 : (PV.take (PV.length - 1)).length = j := by rw [List.length_take]; omega
            have s15 := same_new (o := .lst (PV.take (PV.length - 1))) hfl
            have c15 := c14.guard s15 hfl upd_same
            have hu15 := s15 _ _ hu14
            have hf15 : (upd H4' fl (.lst (PV.take (PV.length - 1)))) fl = some (.lst (PV.take (PV.length - 1))) := upd_same
            generalize upd H4' fl (.lst (PV.take (PV.length - 1))) = H5' at c15 hu15 hf15 ⊢
            obtain ⟨G3, hG3⟩ : ∃ G3 : Addr → Prop, G3 = fun b => G2 b ∨ b = fl := ⟨_, rfl⟩
            rw [← hG3] at c15
            have gu3 : G3 u := by rw [hG3]; exact .inl gu
            have gf3 : G3 fl := by rw [hG3]; exact .inr rfl
            clear s15 hG3 c14 hu14 hfl hob14
            refine ⟨fl, rfl, ⟨_, SqL.of hf15⟩, for_list (K := K) (a := fl) (xs := PV.take (PV.length - 1)) (fun i σ H' => ∃ (v5 v7 v13 : Option V) (W : Wd) (ss : List Sq), σ = [some (.ref sa), some (.ref d), some (.int (m : Nat)), some (.ref W10.c), some (.int word), v5, v6, v7, some (.ref ta), some (.ref u), some (.int (j : Nat)), some (.ref q8.p), none, v13] ∧
              W.c = W10.c ∧ (W.qa.map fun q => V.ref q.p) = PV ∧ CouAt K a m G3 H' W ks ss ls ∧ H' u = some (.lst (upV up)) ∧ H' fl = some (.lst (PV.take (PV.length - 1))) ∧ Round m up j 50 r1 r1.length ks ss ∧ Inv m ks ss ls ∧ Bd (1000 + i * 20) ks ss ls ∧ ss.length = j + 1)
              ⟨v5', v7, none, W, ss, rfl, ew, epp, c15, hu15, hf15, R, I, B.mono (by omega), hsl⟩ (fun i σ H' _ ⟨_, _, _, _, _, _, _, _, _, _, h, _⟩ => SqL.of h) ?_ ?_⟩
            · clear c15 hu15 hf15 R I B hsl h1 h2 h3 h4 h5 epp ew
              rintro i y σ H' hi ⟨v5'', v7', v13, W, ss, rfl, ew, epp, c, hu', hf', R, I, B, hsl⟩
              have hij : i < j := by
                have := (List.getElem?_eq_some_iff.mp hi).1
                omega
              rw [List.getElem?_take_of_lt (by omega), ← epp, List.getElem?_map] at hi
              obtain ⟨q1, hq1, rfl⟩ := Option.map_eq_some_iff.mp hi
              obtain ⟨sq, hsq, SA⟩ := c.sq_of hq1
              obtain ⟨dq1, _, xs1, g1, _, _, g4, g5, _⟩ := id SA
              have hne : i ≠ j := by omega
              have hlow := R.low i sq hsq hne
              have hrow := (B.sq sq (List.mem_of_getElem? hsq)).row
              have hj5 : i ≤ 3 := by omega
              refine ⟨_, rfl, q1.p, _, dq1, _, _, rfl, g1, T.clS, T.nSs, rfl, rfl, _, rfl, ?_⟩
              show (if decide (V.str sq.stand.str = V.str Stand.leading.str) = true then _ else _)
              rw [stand_eq]
              by_cases hl : sq.stand = .leading
              · rw [decide_eq_true hl]
                refine iteT ?_
                -- it adds
                refine ⟨_, rfl, q1.p, dq1, _, rfl, g1, rfl, m, q1, sq, _, .late, rfl, SA, .str _, by omega, hl, fun H2' S2 b2 => ?_⟩
                obtain ⟨c2, fr2⟩ := c.row hq1 S2 b2
                have ok := I.sq sq (List.mem_of_getElem? hsq)
                have I2 := (I.add hsq .late hl).2
                have B2 := B.add hsq .late
                have hil : i < ss.length := by omega
                have hs2 : (ss.set i (sq.add .late))[i]? = some (sq.add .late) := List.getElem?_set_self hil
                have R2 := R.old (s := sq.add .late) hne hlow
                have E1 := old_stops (up := up) (e0 := 50) U I2.klen R2.clean hs2 hl hlow ok.tlen (fun t ht => by
                  have := ok.tle t ht
                  show t < (sq.row ++ [Ent.late]).length
                  rw [List.length_append]
                  show t < sq.row.length + 1
                  omega) (fun i' s' h' n' => eps_ne I2.eps hs2 h' n')
                have hl2 : (ss.set i (sq.add .late)).length = j + 1 := by rw [List.length_set]; exact hsl
                generalize hss2 : ss.set i (sq.add .late) = ss2 at *
                have hil2 : i < ss2.length := by omega
                have hs3 : (ss2.set i { sq.add .late with stand := .stopped })[i]? = some { sq.add .late with stand := .stopped } := List.getElem?_set_self hil2
                have I3 := (I2.exch (j := i) (up := up)).2
                have B3 := B2.exch (m := m) (j := i) up
                rw [E1] at I3 B3
                have R3 := R2.old (s := { sq.add .late with stand := .stopped }) hne hlow
                have E2 := stopped_still (up := up) (e0 := 50) U I3.klen R3.clean hs3 rfl
                have hl3 : (ss2.set i { sq.add .late with stand := .stopped }).length = j + 1 := by rw [List.length_set]; exact hl2
                generalize hss3 : ss2.set i { sq.add .late with stand := .stopped } = ss3 at *
                -- its number
                obtain ⟨dx2, hob2⟩ := c2.ob
                rw [ew] at hob2
                have SA2 := c2.seqs i q1 _ hq1 hs2
                obtain ⟨dq2, _, xs2, k1, _, _, k4, k5, _⟩ := id SA2
                have hsls : SqL K H2' W.sl ((W.qa.map fun q : Lo => q.p).map V.ref) := by
                  rw [List.map_map]
                  exact SqL.of c2.sls
                refine ⟨_, rfl, W10.c, _, dx2, _, _, rfl, hob2, T.clC, T.nCs, rfl, .inl ⟨rfl, _, hsls⟩, _, rfl, W.sl, (W.qa.map fun q : Lo => q.p), i, q1.p, rfl, rfl, hsls, fun b hb => ?_, ?_, fun i' b hi' hb z => ?_, ?_⟩
                · obtain ⟨q', hq', rfl⟩ := List.mem_map.mp hb
                  obtain ⟨i', hi'⟩ := List.getElem?_of_mem hq'
                  obtain ⟨s', _, SA'⟩ := c2.sq_of hi'
                  obtain ⟨dz, _, _, gz, _⟩ := SA'
                  exact ⟨dz, _, gz⟩
                · rw [List.getElem?_map, hq1]
                  rfl
                · rw [List.getElem?_map] at hb
                  obtain ⟨q', hq', rfl⟩ := Option.map_eq_some_iff.mp hb
                  exact (c2.qn i' i q' q1 (by omega) hq' hq1).1 z
                -- its exchanges
                have hu2 : H2' u = some (.lst (upV up)) := by rw [fr2.1 u gu3]; exact hu'
                have hf2 : H2' fl = some (.lst (PV.take (PV.length - 1))) := by rw [fr2.1 fl gf3]; exact hf'
                have hx2 := k5.len
                rw [List.length_map] at hx2
                have hrow2 : (sq.add .late).row.length ≤ 2000 := by
                  show (sq.row ++ [Ent.late]).length ≤ 2000
                  rw [List.length_append]
                  show sq.row.length + 1 ≤ 2000
                  omega
                refine ⟨_, rfl, q1.p, _, dq2, _, _, rfl, k1, T.clS, T.nSw, rfl, q1.rl, xs2, rfl, .inl (SqL.of k4), _, _, rfl, rfl, _, rfl, by omega, by omega, ?_⟩
                obtain ⟨cnt, hcnt⟩ : ∃ cnt : Nat, (((xs2.length : Nat) : Int) + 1).toNat = cnt + 1 := ⟨xs2.length, by omega⟩
                rw [hcnt]
                refine for_range (fun k σ H' => ∃ (v5 : Option V) (W' : Wd), σ = [some (.ref sa), some (.ref d), some (.int (m : Nat)), some (.ref W10.c), some (.int word), v5, v6, some (.ref q1.p), some (.ref ta), some (.ref u), some (.int (j : Nat)), some (.ref q8.p), none, some (.int (i : Nat))] ∧
                  W'.c = W10.c ∧ (W'.qa.map fun q => V.ref q.p) = PV ∧ CouAt K a m G3 H' W' ks (if k = 0 then ss2 else ss3) ls ∧ H' u = some (.lst (upV up)) ∧ H' fl = some (.lst (PV.take (PV.length - 1))))
                  ⟨v5'', W, rfl, ew, epp, c2, hu2, hf2⟩ ?_ ?_
                · rintro k σ H'' _ ⟨v5a, W', rfl, ew', epp', c', hu'', hf''⟩
                  obtain ⟨dx', hob'⟩ := c'.ob
                  rw [ew'] at hob'
                  have fin : ∀ (W'' : Wd) (H3' : Hp), W''.c = W'.c → (W''.qa.map fun q => V.ref q.p) = (W'.qa.map fun q => V.ref q.p) → CouAt K a m G3 H3' W'' ks ss3 ls → Fr G3 H'' H3' → ∃ (v5 : Option V) (Wx : Wd), [some (V.ref sa), some (.ref d), some (.int (m : Nat)), some (.ref W10.c), some (.int word), some (.int (0 + (k : Nat))), v6, some (.ref q1.p), some (.ref ta), some (.ref u), some (.int (j : Nat)), some (.ref q8.p), none, some (.int (i : Nat))] =
                      [some (.ref sa), some (.ref d), some (.int (m : Nat)), some (.ref W10.c), some (.int word), v5, v6, some (.ref q1.p), some (.ref ta), some (.ref u), some (.int (j : Nat)), some (.ref q8.p), none, some (.int (i : Nat))] ∧
                      Wx.c = W10.c ∧ (Wx.qa.map fun q => V.ref q.p) = PV ∧ CouAt K a m G3 H3' Wx ks (if k + 1 = 0 then ss2 else ss3) ls ∧ H3' u = some (.lst (upV up)) ∧ H3' fl = some (.lst (PV.take (PV.length - 1))) := fun W'' H3' e1 e2 c3 fr3 =>
                    ⟨_, W'', rfl, e1.trans ew', e2.trans epp', by rw [if_neg (Nat.succ_ne_zero k)]; exact c3, by rw [fr3.1 u gu3]; exact hu'', by rw [fr3.1 fl gf3]; exact hf''⟩
                  by_cases hk : k = 0
                  · rw [if_pos hk] at c'
                    refine ⟨_, rfl, W10.c, dx', _, rfl, hob', rfl, _, rfl, _, rfl, m, G3, W', ks, ss2, ls, i, _, u, up, by rw [ew']; rfl, c', gu3, hu'', U.lt, I2, B2.mono (by omega), by omega, hs2, fun W'' H3' e1 e2 c3 fr3 => ?_⟩
                    rw [E1] at c3
                    exact fin W'' H3' e1 e2 c3 fr3
                  · rw [if_neg hk] at c'
                    refine ⟨_, rfl, W10.c, dx', _, rfl, hob', rfl, _, rfl, _, rfl, m, G3, W', ks, ss3, ls, i, _, u, up, by rw [ew']; rfl, c', gu3, hu'', U.lt, I3, B3.mono (by omega), by omega, hs3, fun W'' H3' e1 e2 c3 fr3 => ?_⟩
                    rw [E2] at c3
                    exact fin W'' H3' e1 e2 c3 fr3
                · rintro σ H3' ⟨v5a, W', rfl, ew', epp', c', hu'', hf''⟩
                  rw [if_neg (Nat.succ_ne_zero cnt)] at c'
                  obtain ⟨dx', hob'⟩ := c'.ob
                  rw [ew'] at hob'
                  refine ⟨_, rfl, W10.c, dx', _, rfl, hob', rfl, m, G3, W', ks, ss3, ls, by rw [ew']; rfl, c', fewOf I3 B3 (by omega) (by omega), fun t1 r2 H4' tt1 sr1 s4' => ?_⟩
                  rw [I3.klen] at sr1
                  have e1 : r2 = r1 := settled_is I3 U R3 sr1
                  subst e1
                  obtain ⟨⟨L3, l1, _, _, l4, _⟩, _, _⟩ := id R3
                  obtain ⟨q3, hq3, SA3⟩ := c'.at_q l1
                  have ep3 : q3.p = q8.p := p_of epp' hq3 hPj
                  obtain ⟨dq3, _, xs3, n1, _, _, n4, n5, _⟩ := id SA3
                  rw [ep3] at n1
                  rw [l4] at n5
                  refine ⟨_, rfl, q8.p, _, dq3, _, _, rfl, s4' _ _ n1, T.clS, T.nSw, rfl, q3.rl, xs3, rfl, .inl ⟨SqL.of (s4' _ _ n4), fun p1 hp1 => ?_⟩⟩
                  have s5' := same_new (o := .tup xs3) hp1
                  have n5' := (n5.at (Kept.of_same s4')).at (Kept.of_same s5')
                  refine ⟨.tuple (r2.map Ent.d), .tuple (r2.map Ent.d), Tp.dp _ _ (tt1.at (Kept.of_same s5')), .tup (SqT.of upd_same) (TpAll.dp _ _ n5'), tup_shaped ent_lay ent_depth (by decide) r2, tup_shaped ent_lay ent_depth (by decide) r2, _, rfl, ?_⟩
                  rw [ents_eqv, decide_eq_true rfl]
                  refine iteF ?_
                  have s45' := s4'.trans s5'
                  obtain ⟨q4, hq4, SA4⟩ := (c'.same s45').at_q hs3
                  have ep4 : q4.p = q1.p := by
                    have : PV[i]? = some (V.ref q1.p) := by
                      rw [← epp, List.getElem?_map, hq1]
                      rfl
                    exact p_of epp' hq4 this
                  obtain ⟨dq4, _, _, o1, _⟩ := id SA4
                  rw [ep4] at o1
                  refine ⟨_, rfl, q1.p, _, dq4, _, _, rfl, o1, T.clS, T.nSs, rfl, rfl, _, rfl, ?_⟩
                  show (if (!decide (V.str Stand.stopped.str = V.str Stand.stopped.str)) = true then _ else _)
                  rw [decide_eq_true rfl]
                  refine iteF (iteF ?_)
                  exact ⟨_, _, _, W', ss3, rfl, ew', epp', c'.same s45', s45' _ _ hu'', s45' _ _ hf'', R3, I3, B3.mono (by omega), hl3⟩
              · rw [decide_eq_false hl]
                exact iteF ⟨_, _, _, W, ss, rfl, ew, epp, c, hu', hf', R, I, B.mono (by omega), hsl⟩
            · rintro σ H' _
              exact k _
      · -- some keepers fall away
        refine ⟨fun n σ' H' => ∃ up : List Nat, σ' = [some (.ref sa), some (.ref d), some (.int (m : Nat)), some (.ref W.c), some (.int word), v5, v6, v7, some t, some (.ref u), none, none, none, none] ∧ H' u = some (.lst (upV up)) ∧ Up m up ∧ CouAt K a m G2 H' W ks ss ls ∧
          DrawAt K Lp H' d sa ns ∧ Tp K H' t (.tuple (r.map Ent.d)) ∧ n = up.length, ⟨m, List.range m, rfl, hu7, Up.all hm0, c7, D7, tt7, List.length_range.symm⟩, ?_⟩
        clear c7 D7 hu7 tt7 H7
        rintro n σ H7 ⟨up, rfl, hu7, U, c7, D7, tt7, rfl⟩
        refine ⟨_, rfl, u, _, rfl, .inl (SqL.of hu7), _, rfl, m, rfl, _, _, rfl, rfl, _, rfl, ?_⟩
        rw [upV_len]
        by_cases big : most m < up.length
        · rw [decide_eq_true (show ((most m : Nat) : Int) < ((up.length : Nat) : Int) by omega)]
          refine iteT ⟨_, rfl, Lp, d, sa, ns, 2, rfl, D7, by decide, fun r2 ys H8 hr2 D8 hd8 b8 => ⟨rfl, _, rfl, ?_⟩⟩
          have c8 := c7.own gd2 b8 hd8
          have hu8 : H8 u = some (.lst (upV up)) := b8 _ _ hu7 hdu.symm
          have hd7 : ∃ c, H7 d = some (.lst c) := by
            obtain ⟨c, _, e⟩ := D7.at_
            exact ⟨_, e⟩
          obtain ⟨c0, hd7⟩ := hd7
          have tt8 := tt7.at (b8.kept hd7 (fun z => z))
          by_cases z2 : r2 = 0
          · rw [decide_eq_true (show V.int ((r2 : Nat) : Int) = V.int 0 by rw [z2]; rfl)]
            refine iteT ⟨fun σ' H' => ∃ m', m' < up.length ∧ ∃ up : List Nat, σ' = [some (.ref sa), some (.ref d), some (.int (m : Nat)), some (.ref W.c), some (.int word), v5, v6, v7, some t, some (.ref u), none, none, none, none] ∧ H' u = some (.lst (upV up)) ∧ Up m up ∧ CouAt K a m G2 H' W ks ss ls ∧
              DrawAt K Lp H' d sa ns ∧ Tp K H' t (.tuple (r.map Ent.d)) ∧ m' = up.length, fun σ' H' h => h, ?_⟩
            refine ⟨_, rfl, .inl ⟨rfl, _, SqL.of hu8⟩, _, rfl, _, rfl, u, _, rfl, .inl (SqL.of hu8), Lp, d, sa, ns, _, rfl, D8, by rw [upV_len]; omega, fun r3 ys3 H9 hr3 D9 hd9 b9 => ?_⟩
            have c9 := c8.own gd2 b9 hd9
            have hu9 : H9 u = some (.lst (upV up)) := b9 _ _ hu8 hdu.symm
            have tt9 := tt8.at (b9.kept hd8 (fun z => z))
            rw [upV_len] at hr3
            have hr3' : r3 < up.length := by omega
            have hget : (upV up)[r3]? = some (V.int (up[r3] : Nat)) := by
              unfold upV
              rw [List.getElem?_map, List.getElem?_map, List.getElem?_eq_getElem hr3']
              rfl
            have hup6 : up.length ≤ 10 := by
              have := nodup_le U.nd U.lt
              omega
            refine ⟨u, upV up, ((r3 : Nat) : Int), r3, _, rfl, rfl, hu9, by omega, by omega, ?_, hget, ?_⟩
            · rw [seqIndex_of (by omega) (by rw [upV_len]; omega)]
              simp
            rw [erase_up]
            have b10 : But u H9 (upd H9 u (.lst (upV (up.eraseIdx r3)))) := But.upd
            have c10 := c9.own gu b10 upd_same
            have tt10 := tt9.at (b10.kept hu9 (fun z => z))
            have D10 : DrawAt K Lp (upd H9 u (.lst (upV (up.eraseIdx r3)))) d sa ns := by
              obtain ⟨⟨c1, h1, e1⟩, sc, hl⟩ := D9
              refine ⟨⟨c1, h1, b10 _ _ e1 hdu⟩, sc.at' (fun l => ?_) (b10.kept hu9 (fun z => z)), hl⟩
              have h2 := sc.open_ l
              rw [h2]
              exact b10 _ _ h2 (hsu l)
            exact ⟨up.length - 1, by omega, up.eraseIdx r3, rfl, upd_same, U.erase hr3' big, c10, D10, tt10, by rw [List.length_eraseIdx_of_lt hr3']⟩
          · rw [decide_eq_false (show ¬ V.int ((r2 : Nat) : Int) = V.int 0 from fun h => z2 (by injection h with h; omega))]
            exact iteF (hN _ _ ⟨up, rfl, hu8, U, c8, D8, tt8⟩)
        · rw [decide_eq_false (show ¬ ((most m : Nat) : Int) < ((up.length : Nat) : Int) by omega)]
          exact iteF (iteF (hN _ _ ⟨up, rfl, hu7, U, c7, D7, tt7⟩))
end
end K41
set_option Elab.async false
set_option linter.all false
set_option maxRecDepth 100000
set_option maxHeartbeats 4000000
/-! L41O: what the top has written; the law's own head. -/
namespace K41
open PySem PySem.Spec PyProof.Rows L2 StX PySem.W

/-- an error of the class at S is what «except S» names -/
theorem exm_self {K : PySem.W.Frag} {S : Addr} (h1 : PySem.W.subIn K (.ref S) (.type "BaseException") = some true) (h2 : PySem.W.isClsIn K S = true) (h3 : PySem.W.typeIn K (.ref S) = some (.type "type")) (h4 : PySem.W.subIn K (.ref S) (.ref S) = some true) :
    PySem.W.exmOne K (.ref S) (.ref S) = some true := by
  have e1 : (PySem.W.subIn K (.ref S) (.type "BaseException") == some true) = true := by rw [h1] <;> rfl
  have e2 : ((PySem.W.clsIn K S).isSome && PySem.W.typeIn K (.ref S) == some (.type "type")) = true := by
    have h2' : (PySem.W.clsIn K S).isSome = true := h2
    rw [h2', h3] <;> rfl
  show (if (PySem.W.subIn K (.ref S) (.type "BaseException") == some true) = true then (if ((PySem.W.clsIn K S).isSome && PySem.W.typeIn K (.ref S) == some (.type "type")) = true then PySem.W.subIn K (.ref S) (.ref S) else none) else none) = some true
  rw [if_pos e1, if_pos e2]
  exact h4
theorem all_mk {l : PySem.W.OpenLaw} {w : World} {K : PySem.W.Frag} {h : Heap} {mg : Str → Option Value} {fa cR cK cS cC cB cD fB f0 f1 f2 f3 f4 f5 f6 f7 f8 f9 f10 f11 f12 f13 f14 f15 f16 f17 f18 f19 f20 f21 f22 f23 f24 f25 f26 f27 f28 f29 : Addr} (X : K.In h) (G : h.Ns mainGlobals mg) (hfa : mg "law" = some (.ref fa))
    {od0 an0 od1 an1 od2 an2 od3 an3 od4 an4 od5 an5 od6 an6 od7 an7 od8 an8 od9 an9 od10 an10 od11 an11 od12 an12 od13 an13 od14 an14 od15 an15 od16 an16 od17 an17 od18 an18 od19 an19 od20 an20 od21 an21 od22 an22 od23 an23 od24 an24 od25 an25 od26 an26 od27 an27 od28 an28 od29 an29 odB anB : Option Addr} {sl0 sl1 sl2 sl3 sl4 sl5 sl6 sl7 sl8 sl9 sl10 sl11 sl12 sl13 sl14 sl15 sl16 sl17 sl18 sl19 sl20 sl21 sl22 sl23 sl24 sl25 sl26 sl27 sl28 sl29 slB cslB ccsB : Array (Option Value)}
    {oc0 kV0 dc0 pm0 cd0 ct0 oc1 kV1 dc1 pm1 cd1 ct1 oc2 kV2 dc2 pm2 cd2 ct2 oc3 kV3 dc3 pm3 cd3 ct3 oc4 kV4 dc4 pm4 cd4 ct4 oc5 kV5 dc5 pm5 cd5 ct5 oc6 kV6 dc6 pm6 cd6 ct6 oc7 kV7 dc7 pm7 cd7 ct7 oc8 kV8 dc8 pm8 cd8 ct8 oc9 kV9 dc9 pm9 cd9 ct9 oc10 kV10 dc10 pm10 cd10 ct10 oc11 kV11 dc11 pm11 cd11 ct11 oc12 kV12 dc12 pm12 cd12 ct12 oc13 kV13 dc13 pm13 cd13 ct13 oc14 kV14 dc14 pm14 cd14 ct14 oc15 kV15 dc15 pm15 cd15 ct15 oc16 kV16 dc16 pm16 cd16 ct16 oc17 kV17 dc17 pm17 cd17 ct17 oc18 kV18 dc18 pm18 cd18 ct18 oc19 kV19 dc19 pm19 cd19 ct19 oc20 kV20 dc20 pm20 cd20 ct20 oc21 kV21 dc21 pm21 cd21 ct21 oc22 kV22 dc22 pm22 cd22 ct22 oc23 kV23 dc23 pm23 cd23 ct23 oc24 kV24 dc24 pm24 cd24 ct24 oc25 kV25 dc25 pm25 cd25 ct25 oc26 kV26 dc26 pm26 cd26 ct26 oc27 kV27 dc27 pm27 cd27 ct27 oc28 kV28 dc28 pm28 cd28 ct28 oc29 kV29 dc29 pm29 cd29 ct29 ocB kVB dcB pmB ctB clB cclB : Value}
    {nm q : Str} {N : Addr} {bs : List Value} {sn : List Str} {sub : List Value} {ab : Bool} {col : Option Bool} {dd cldB cddB : Option Addr} {k0 k1 k2 k3 k5 : Option Value} {ccB cdB : Addr} {vsB : Array Value} {fileB : Str} {tfB tgAsk tgLead tgStop tME : Tok}
    (gR_ : PySem.W.nsIn K mainGlobals "Record" = some (some (.ref cR)))
    (gK_ : PySem.W.nsIn K mainGlobals "Keeper" = some (some (.ref cK)))
    (gS_ : PySem.W.nsIn K mainGlobals "Sequencer" = some (some (.ref cS)))
    (gC_ : PySem.W.nsIn K mainGlobals "Council" = some (some (.ref cC)))
    (gB_ : PySem.W.nsIn K mainGlobals "BadName" = some (some (.ref cB)))
    (a0_ : PySem.W.findIn K (.ref cR) "__init__" = some (some (.ref f0)))
    (i0_ : PySem.W.isFn K (.ref f0) = true)
    (l0_ : K.lookup f0 = some ⟨oc0, od0, .func (PySem.W.fnOf "__init__" "Record.__init__" (defArgs (sRec 0)) (defBody (sRec 0)) (defScope (sRec 0)) .none kV0 dc0 pm0 an0 cd0 ct0), sl0⟩)
    (c0_ : PySem.W.codeIn K cd0 "Record.__init__" = true)
    (k0_ : PySem.W.keepIn K (.ref f0) = true)
    (a1_ : PySem.W.findIn K (.ref cR) "put" = some (some (.ref f1)))
    (i1_ : PySem.W.isFn K (.ref f1) = true)
    (l1_ : K.lookup f1 = some ⟨oc1, od1, .func (PySem.W.fnOf "put" "Record.put" (defArgs (sRec 1)) (defBody (sRec 1)) (defScope (sRec 1)) .none kV1 dc1 pm1 an1 cd1 ct1), sl1⟩)
    (c1_ : PySem.W.codeIn K cd1 "Record.put" = true)
    (k1_ : PySem.W.keepIn K (.ref f1) = true)
    (a2_ : PySem.W.findIn K (.ref cR) "fits" = some (some (.ref f2)))
    (i2_ : PySem.W.isFn K (.ref f2) = true)
    (l2_ : K.lookup f2 = some ⟨oc2, od2, .func (PySem.W.fnOf "fits" "Record.fits" (defArgs (sRec 2)) (defBody (sRec 2)) (defScope (sRec 2)) .none kV2 dc2 pm2 an2 cd2 ct2), sl2⟩)
    (c2_ : PySem.W.codeIn K cd2 "Record.fits" = true)
    (k2_ : PySem.W.keepIn K (.ref f2) = true)
    (a3_ : PySem.W.findIn K (.ref cK) "__init__" = some (some (.ref f3)))
    (i3_ : PySem.W.isFn K (.ref f3) = true)
    (l3_ : K.lookup f3 = some ⟨oc3, od3, .func (PySem.W.fnOf "__init__" "Keeper.__init__" (defArgs (sKee 0)) (defBody (sKee 0)) (defScope (sKee 0)) .none kV3 dc3 pm3 an3 cd3 ct3), sl3⟩)
    (c3_ : PySem.W.codeIn K cd3 "Keeper.__init__" = true)
    (k3_ : PySem.W.keepIn K (.ref f3) = true)
    (a4_ : PySem.W.findIn K (.ref cK) "kept" = some (some (.ref f4)))
    (i4_ : PySem.W.isFn K (.ref f4) = true)
    (l4_ : K.lookup f4 = some ⟨oc4, od4, .func (PySem.W.fnOf "kept" "Keeper.kept" (defArgs (sKee 1)) (defBody (sKee 1)) (defScope (sKee 1)) .none kV4 dc4 pm4 an4 cd4 ct4), sl4⟩)
    (c4_ : PySem.W.codeIn K cd4 "Keeper.kept" = true)
    (k4_ : PySem.W.keepIn K (.ref f4) = true)
    (a5_ : PySem.W.findIn K (.ref cK) "handle" = some (some (.ref f5)))
    (i5_ : PySem.W.isFn K (.ref f5) = true)
    (l5_ : K.lookup f5 = some ⟨oc5, od5, .func (PySem.W.fnOf "handle" "Keeper.handle" (defArgs (sKee 2)) (defBody (sKee 2)) (defScope (sKee 2)) .none kV5 dc5 pm5 an5 cd5 ct5), sl5⟩)
    (c5_ : PySem.W.codeIn K cd5 "Keeper.handle" = true)
    (k5_ : PySem.W.keepIn K (.ref f5) = true)
    (a6_ : PySem.W.findIn K (.ref cK) "take" = some (some (.ref f6)))
    (i6_ : PySem.W.isFn K (.ref f6) = true)
    (l6_ : K.lookup f6 = some ⟨oc6, od6, .func (PySem.W.fnOf "take" "Keeper.take" (defArgs (sKee 3)) (defBody (sKee 3)) (defScope (sKee 3)) .none kV6 dc6 pm6 an6 cd6 ct6), sl6⟩)
    (c6_ : PySem.W.codeIn K cd6 "Keeper.take" = true)
    (k6_ : PySem.W.keepIn K (.ref f6) = true)
    (a7_ : PySem.W.findIn K (.ref cK) "flush" = some (some (.ref f7)))
    (i7_ : PySem.W.isFn K (.ref f7) = true)
    (l7_ : K.lookup f7 = some ⟨oc7, od7, .func (PySem.W.fnOf "flush" "Keeper.flush" (defArgs (sKee 4)) (defBody (sKee 4)) (defScope (sKee 4)) .none kV7 dc7 pm7 an7 cd7 ct7), sl7⟩)
    (c7_ : PySem.W.codeIn K cd7 "Keeper.flush" = true)
    (k7_ : PySem.W.keepIn K (.ref f7) = true)
    (a8_ : PySem.W.nsIn K mainGlobals "is_whole" = some (some (.ref f8)))
    (l8_ : K.lookup f8 = some ⟨oc8, od8, .func (PySem.W.fnOf "is_whole" "is_whole" (defArgs sWhole) (defBody sWhole) (defScope sWhole) .none kV8 dc8 pm8 an8 cd8 ct8), sl8⟩)
    (c8_ : PySem.W.codeIn K cd8 "is_whole" = true)
    (k8_ : PySem.W.keepIn K (.ref f8) = true)
    (a9_ : PySem.W.nsIn K mainGlobals "most_of" = some (some (.ref f9)))
    (l9_ : K.lookup f9 = some ⟨oc9, od9, .func (PySem.W.fnOf "most_of" "most_of" (defArgs sMost) (defBody sMost) (defScope sMost) .none kV9 dc9 pm9 an9 cd9 ct9), sl9⟩)
    (c9_ : PySem.W.codeIn K cd9 "most_of" = true)
    (k9_ : PySem.W.keepIn K (.ref f9) = true)
    (a10_ : PySem.W.nsIn K mainGlobals "takers" = some (some (.ref f10)))
    (l10_ : K.lookup f10 = some ⟨oc10, od10, .func (PySem.W.fnOf "takers" "takers" (defArgs sTakers) (defBody sTakers) (defScope sTakers) .none kV10 dc10 pm10 an10 cd10 ct10), sl10⟩)
    (c10_ : PySem.W.codeIn K cd10 "takers" = true)
    (k10_ : PySem.W.keepIn K (.ref f10) = true)
    (a11_ : PySem.W.nsIn K mainGlobals "settled_at" = some (some (.ref f11)))
    (l11_ : K.lookup f11 = some ⟨oc11, od11, .func (PySem.W.fnOf "settled_at" "settled_at" (defArgs sSetAt) (defBody sSetAt) (defScope sSetAt) .none kV11 dc11 pm11 an11 cd11 ct11), sl11⟩)
    (c11_ : PySem.W.codeIn K cd11 "settled_at" = true)
    (k11_ : PySem.W.keepIn K (.ref f11) = true)
    (a12_ : PySem.W.nsIn K mainGlobals "settled_row" = some (some (.ref f12)))
    (l12_ : K.lookup f12 = some ⟨oc12, od12, .func (PySem.W.fnOf "settled_row" "settled_row" (defArgs sSetRow) (defBody sSetRow) (defScope sSetRow) .none kV12 dc12 pm12 an12 cd12 ct12), sl12⟩)
    (c12_ : PySem.W.codeIn K cd12 "settled_row" = true)
    (k12_ : PySem.W.keepIn K (.ref f12) = true)
    (a13_ : PySem.W.nsIn K mainGlobals "newest_row" = some (some (.ref f13)))
    (l13_ : K.lookup f13 = some ⟨oc13, od13, .func (PySem.W.fnOf "newest_row" "newest_row" (defArgs sNewest) (defBody sNewest) (defScope sNewest) .none kV13 dc13 pm13 an13 cd13 ct13), sl13⟩)
    (c13_ : PySem.W.codeIn K cd13 "newest_row" = true)
    (k13_ : PySem.W.keepIn K (.ref f13) = true)
    (a14_ : PySem.W.findIn K (.ref cS) "__init__" = some (some (.ref f14)))
    (i14_ : PySem.W.isFn K (.ref f14) = true)
    (l14_ : K.lookup f14 = some ⟨oc14, od14, .func (PySem.W.fnOf "__init__" "Sequencer.__init__" (defArgs (sSeq 0)) (defBody (sSeq 0)) (defScope (sSeq 0)) .none kV14 dc14 pm14 an14 cd14 ct14), sl14⟩)
    (c14_ : PySem.W.codeIn K cd14 "Sequencer.__init__" = true)
    (k14_ : PySem.W.keepIn K (.ref f14) = true)
    (a15_ : PySem.W.findIn K (.ref cS) "to_send" = some (some (.ref f15)))
    (i15_ : PySem.W.isFn K (.ref f15) = true)
    (l15_ : K.lookup f15 = some ⟨oc15, od15, .func (PySem.W.fnOf "to_send" "Sequencer.to_send" (defArgs (sSeq 1)) (defBody (sSeq 1)) (defScope (sSeq 1)) .none kV15 dc15 pm15 an15 cd15 ct15), sl15⟩)
    (c15_ : PySem.W.codeIn K cd15 "Sequencer.to_send" = true)
    (k15_ : PySem.W.keepIn K (.ref f15) = true)
    (a16_ : PySem.W.findIn K (.ref cS) "hear" = some (some (.ref f16)))
    (i16_ : PySem.W.isFn K (.ref f16) = true)
    (l16_ : K.lookup f16 = some ⟨oc16, od16, .func (PySem.W.fnOf "hear" "Sequencer.hear" (defArgs (sSeq 2)) (defBody (sSeq 2)) (defScope (sSeq 2)) .none kV16 dc16 pm16 an16 cd16 ct16), sl16⟩)
    (c16_ : PySem.W.codeIn K cd16 "Sequencer.hear" = true)
    (k16_ : PySem.W.keepIn K (.ref f16) = true)
    (a17_ : PySem.W.findIn K (.ref cS) "add" = some (some (.ref f17)))
    (i17_ : PySem.W.isFn K (.ref f17) = true)
    (l17_ : K.lookup f17 = some ⟨oc17, od17, .func (PySem.W.fnOf "add" "Sequencer.add" (defArgs (sSeq 3)) (defBody (sSeq 3)) (defScope (sSeq 3)) .none kV17 dc17 pm17 an17 cd17 ct17), sl17⟩)
    (c17_ : PySem.W.codeIn K cd17 "Sequencer.add" = true)
    (k17_ : PySem.W.keepIn K (.ref f17) = true)
    (a18_ : PySem.W.findIn K (.ref cS) "settled" = some (some (.ref f18)))
    (i18_ : PySem.W.isFn K (.ref f18) = true)
    (l18_ : K.lookup f18 = some ⟨oc18, od18, .func (PySem.W.fnOf "settled" "Sequencer.settled" (defArgs (sSeq 4)) (defBody (sSeq 4)) (defScope (sSeq 4)) .none kV18 dc18 pm18 an18 cd18 ct18), sl18⟩)
    (c18_ : PySem.W.codeIn K cd18 "Sequencer.settled" = true)
    (k18_ : PySem.W.keepIn K (.ref f18) = true)
    (a19_ : PySem.W.findIn K (.ref cC) "__init__" = some (some (.ref f19)))
    (i19_ : PySem.W.isFn K (.ref f19) = true)
    (l19_ : K.lookup f19 = some ⟨oc19, od19, .func (PySem.W.fnOf "__init__" "Council.__init__" (defArgs (sCou 0)) (defBody (sCou 0)) (defScope (sCou 0)) .none kV19 dc19 pm19 an19 cd19 ct19), sl19⟩)
    (c19_ : PySem.W.codeIn K cd19 "Council.__init__" = true)
    (k19_ : PySem.W.keepIn K (.ref f19) = true)
    (a20_ : PySem.W.findIn K (.ref cC) "begin" = some (some (.ref f20)))
    (i20_ : PySem.W.isFn K (.ref f20) = true)
    (l20_ : K.lookup f20 = some ⟨oc20, od20, .func (PySem.W.fnOf "begin" "Council.begin" (defArgs (sCou 1)) (defBody (sCou 1)) (defScope (sCou 1)) .none kV20 dc20 pm20 an20 cd20 ct20), sl20⟩)
    (c20_ : PySem.W.codeIn K cd20 "Council.begin" = true)
    (k20_ : PySem.W.keepIn K (.ref f20) = true)
    (a21_ : PySem.W.findIn K (.ref cC) "send" = some (some (.ref f21)))
    (i21_ : PySem.W.isFn K (.ref f21) = true)
    (l21_ : K.lookup f21 = some ⟨oc21, od21, .func (PySem.W.fnOf "send" "Council.send" (defArgs (sCou 2)) (defBody (sCou 2)) (defScope (sCou 2)) .none kV21 dc21 pm21 an21 cd21 ct21), sl21⟩)
    (c21_ : PySem.W.codeIn K cd21 "Council.send" = true)
    (k21_ : PySem.W.keepIn K (.ref f21) = true)
    (a22_ : PySem.W.findIn K (.ref cC) "deliver" = some (some (.ref f22)))
    (i22_ : PySem.W.isFn K (.ref f22) = true)
    (l22_ : K.lookup f22 = some ⟨oc22, od22, .func (PySem.W.fnOf "deliver" "Council.deliver" (defArgs (sCou 3)) (defBody (sCou 3)) (defScope (sCou 3)) .none kV22 dc22 pm22 an22 cd22 ct22), sl22⟩)
    (c22_ : PySem.W.codeIn K cd22 "Council.deliver" = true)
    (k22_ : PySem.W.keepIn K (.ref f22) = true)
    (a23_ : PySem.W.findIn K (.ref cC) "flush" = some (some (.ref f23)))
    (i23_ : PySem.W.isFn K (.ref f23) = true)
    (l23_ : K.lookup f23 = some ⟨oc23, od23, .func (PySem.W.fnOf "flush" "Council.flush" (defArgs (sCou 5)) (defBody (sCou 5)) (defScope (sCou 5)) .none kV23 dc23 pm23 an23 cd23 ct23), sl23⟩)
    (c23_ : PySem.W.codeIn K cd23 "Council.flush" = true)
    (k23_ : PySem.W.keepIn K (.ref f23) = true)
    (a24_ : PySem.W.findIn K (.ref cC) "exchange" = some (some (.ref f24)))
    (i24_ : PySem.W.isFn K (.ref f24) = true)
    (l24_ : K.lookup f24 = some ⟨oc24, od24, .func (PySem.W.fnOf "exchange" "Council.exchange" (defArgs (sCou 8)) (defBody (sCou 8)) (defScope (sCou 8)) .none kV24 dc24 pm24 an24 cd24 ct24), sl24⟩)
    (c24_ : PySem.W.codeIn K cd24 "Council.exchange" = true)
    (k24_ : PySem.W.keepIn K (.ref f24) = true)
    (a25_ : PySem.W.findIn K (.ref cC) "settled" = some (some (.ref f25)))
    (i25_ : PySem.W.isFn K (.ref f25) = true)
    (l25_ : K.lookup f25 = some ⟨oc25, od25, .func (PySem.W.fnOf "settled" "Council.settled" (defArgs (sCou 9)) (defBody (sCou 9)) (defScope (sCou 9)) .none kV25 dc25 pm25 an25 cd25 ct25), sl25⟩)
    (c25_ : PySem.W.codeIn K cd25 "Council.settled" = true)
    (k25_ : PySem.W.keepIn K (.ref f25) = true)
    (a26_ : PySem.W.nsIn K mainGlobals "_law_number" = some (some (.ref f26)))
    (l26_ : K.lookup f26 = some ⟨oc26, od26, .func (PySem.W.fnOf "_law_number" "_law_number" (defArgs sNum) (defBody sNum) (defScope sNum) .none kV26 dc26 pm26 an26 cd26 ct26), sl26⟩)
    (c26_ : PySem.W.codeIn K cd26 "_law_number" = true)
    (k26_ : PySem.W.keepIn K (.ref f26) = true)
    (a27_ : PySem.W.nsIn K mainGlobals "_law_take" = some (some (.ref f27)))
    (l27_ : K.lookup f27 = some ⟨oc27, od27, .func (PySem.W.fnOf "_law_take" "_law_take" (defArgs sTake) (defBody sTake) (defScope sTake) .none kV27 dc27 pm27 an27 cd27 ct27), sl27⟩)
    (c27_ : PySem.W.codeIn K cd27 "_law_take" = true)
    (k27_ : PySem.W.keepIn K (.ref f27) = true)
    (a28_ : PySem.W.nsIn K mainGlobals "_law_pick" = some (some (.ref f28)))
    (l28_ : K.lookup f28 = some ⟨oc28, od28, .func (PySem.W.fnOf "_law_pick" "_law_pick" (defArgs sPick) (defBody sPick) (defScope sPick) .none kV28 dc28 pm28 an28 cd28 ct28), sl28⟩)
    (c28_ : PySem.W.codeIn K cd28 "_law_pick" = true)
    (k28_ : PySem.W.keepIn K (.ref f28) = true)
    (a29_ : PySem.W.nsIn K mainGlobals "law" = some (some (.ref f29)))
    (l29_ : K.lookup f29 = some ⟨oc29, od29, .func (PySem.W.fnOf "law" "law" (defArgs sLaw) (defBody sLaw) (defScope sLaw) .none kV29 dc29 pm29 an29 cd29 ct29), sl29⟩)
    (c29_ : PySem.W.codeIn K cd29 "law" = true)
    (k29_ : PySem.W.keepIn K (.ref f29) = true)
    (pgR_ : PySem.W.plainGet K cR Str.empty = true)
    (hdR_ : PySem.W.hasDictIn K cR = true)
    (poR_ : PySem.W.plainOver K cR = true)
    (saR_ : PySem.W.findIn K (.ref cR) "__setattr__" = some (some (.builtin "object.__setattr__")))
    (mkR_ : PySem.W.makesIn K cR = true)
    (kcR_ : PySem.W.keepIn K (.ref cR) = true)
    (pgK_ : PySem.W.plainGet K cK Str.empty = true)
    (hdK_ : PySem.W.hasDictIn K cK = true)
    (poK_ : PySem.W.plainOver K cK = true)
    (saK_ : PySem.W.findIn K (.ref cK) "__setattr__" = some (some (.builtin "object.__setattr__")))
    (mkK_ : PySem.W.makesIn K cK = true)
    (kcK_ : PySem.W.keepIn K (.ref cK) = true)
    (pgS_ : PySem.W.plainGet K cS Str.empty = true)
    (hdS_ : PySem.W.hasDictIn K cS = true)
    (poS_ : PySem.W.plainOver K cS = true)
    (saS_ : PySem.W.findIn K (.ref cS) "__setattr__" = some (some (.builtin "object.__setattr__")))
    (mkS_ : PySem.W.makesIn K cS = true)
    (kcS_ : PySem.W.keepIn K (.ref cS) = true)
    (pgC_ : PySem.W.plainGet K cC Str.empty = true)
    (hdC_ : PySem.W.hasDictIn K cC = true)
    (poC_ : PySem.W.plainOver K cC = true)
    (saC_ : PySem.W.findIn K (.ref cC) "__setattr__" = some (some (.builtin "object.__setattr__")))
    (mkC_ : PySem.W.makesIn K cC = true)
    (kcC_ : PySem.W.keepIn K (.ref cC) = true)
    (nRe_ : PySem.W.findIn K (.ref cR) "epoch" = some none)
    (nRr_ : PySem.W.findIn K (.ref cR) "row" = some none)
    (nKn_ : PySem.W.findIn K (.ref cK) "number" = some none)
    (nKr_ : PySem.W.findIn K (.ref cK) "records" = some none)
    (nKl_ : PySem.W.findIn K (.ref cK) "loose" = some none)
    (nKw_ : PySem.W.findIn K (.ref cK) "waiting" = some none)
    (nSe_ : PySem.W.findIn K (.ref cS) "epoch" = some none)
    (nSm_ : PySem.W.findIn K (.ref cS) "many" = some none)
    (nSs_ : PySem.W.findIn K (.ref cS) "stand" = some none)
    (nSr_ : PySem.W.findIn K (.ref cS) "rows" = some none)
    (nSw_ : PySem.W.findIn K (.ref cS) "row" = some none)
    (nSt_ : PySem.W.findIn K (.ref cS) "taken" = some none)
    (nCk_ : PySem.W.findIn K (.ref cC) "keepers" = some none)
    (nCs_ : PySem.W.findIn K (.ref cC) "sequencers" = some none)
    (nCl_ : PySem.W.findIn K (.ref cC) "letters" = some none)
    (sob_ : PySem.W.mroIn K cS (.type "object") = some true)
    (seq_ : PySem.W.findIn K (.ref cS) "__eq__" = some (some (.builtin "object.__eq__")))
    (gAsk_ : PySem.W.nsIn K mainGlobals "ASKING" = some (some (.str "asking" tgAsk)))
    (gLead_ : PySem.W.nsIn K mainGlobals "LEADING" = some (some (.str "leading" tgLead)))
    (gStop_ : PySem.W.nsIn K mainGlobals "STOPPED" = some (some (.str "stopped" tgStop)))
    (gME_ : PySem.W.nsIn K mainGlobals "MOST_EPOCH" = some (some (.int 999999999999 tME)))
    (nLen_ : PySem.W.nsIn K mainGlobals "len" = some none)
    (nMax_ : PySem.W.nsIn K mainGlobals "max" = some none)
    (nRange_ : PySem.W.nsIn K mainGlobals "range" = some none)
    (nTuple_ : PySem.W.nsIn K mainGlobals "tuple" = some none)
    (nList_ : PySem.W.nsIn K mainGlobals "list" = some none)
    (nSorted_ : PySem.W.nsIn K mainGlobals "sorted" = some none)
    (nIsi_ : PySem.W.nsIn K mainGlobals "isinstance" = some none)
    (nInt_ : PySem.W.nsIn K mainGlobals "int" = some none)
    (nBool_ : PySem.W.nsIn K mainGlobals "bool" = some none)
    (nAbs_ : PySem.W.nsIn K mainGlobals "abs" = some none)
    (nSup_ : PySem.W.nsIn K mainGlobals "super" = some none)
    (bx_ : K.lookup cB = some (excClassObj nm q cB N bs [.ref cD, .type "Exception", .type "BaseException", .type "object"] true sn sub ab col dd k0 k1 k2 k3 k5 "Exception.__new__"))
    (bsa_ : PySem.W.findIn K (.ref cB) "__setattr__" = some (some (.builtin "object.__setattr__")))
    (bga_ : PySem.W.findIn K (.ref cB) "__getattribute__" = some (some (.builtin "BaseException.__getattribute__")))
    (bgg_ : PySem.W.findIn K (.ref cB) "__getattr__" = some none)
    (bnn_ : PySem.W.findIn K (.ref cB) "name" = some none)
    (bi_ : PySem.W.findIn K (.ref cB) "__init__" = some (some (.ref fB)))
    (bt_ : PySem.W.typeIn K (.ref fB) = some (.type "function"))
    (bk_ : PySem.W.keepIn K (.ref cB) = true)
    (be_ : PySem.W.subIn K (.ref cB) (.type "BaseException") = some true)
    (bee_ : PySem.W.subIn K (.ref cB) (.type "Exception") = some true)
    (bty_ : PySem.W.typeIn K (.ref cB) = some (.type "type"))
    (bhd_ : PySem.W.hasDictIn K cB = true)
    (bic_ : PySem.W.isClsIn K cB = true)
    (bss_ : PySem.W.subIn K (.ref cB) (.ref cB) = some true)
    (bup_ : PySem.W.alongIn K "__init__" [.ref cD, .type "Exception", .type "BaseException", .type "object"] = some (some (.builtin "Exception.__init__")))
    (bst_ : PySem.W.nsIn K cStatics "thirdparty.any" = some none)
    (bl_ : K.lookup fB = some ⟨ocB, odB, .func (fnX "__init__" "BadName.__init__" (defArgs sBad) (defBody sBad) (defScope sBad) [("__class__", ccB)] .none kVB dcB pmB anB (.ref cdB) ctB), slB⟩)
    (bc_ : PySem.W.codeIn K (.ref cdB) "BadName.__init__" = true)
    (bcc_ : K.lookup ccB = some ⟨clB, cldB, .cell (some (.ref cB)), cslB⟩)
    (bcd_ : K.lookup cdB = some ⟨cclB, cddB, .fields vsB, ccsB⟩)
    (bv_ : vsB[2]? = some (.str fileB tfB))
    (bf_ : ((l.prog.main.file : Str) == fileB) = true)
    (btop_ : (l.prog.main.scope.names.lookup ("super" : Str)).isSome = false) :
    ∃ fd : FuncData, (∀ (s : Shared) (v : Value), BindsTo s fd ⟨[v], []⟩ [("_law_script", v)]) ∧ ∀ base : Heap, K.In base → base.Ns mainGlobals mg → FnOk l.prog w K mg base CX0 7 fa fd ["_law_script"] (spLaw K) := by
  have e := hfa.symm.trans (PySem.W.mg_of X G a29_)
  cases e
  have F0 := fun_mk (st := (sRec 0)) l0_ c0_ k0_
  have b0 := F0.binds (ps := ["self", "records"]) fun _ _ _ _ _ _ us hl => match us, hl with | [_, _], _ => rfl
  have F1 := fun_mk (st := (sRec 1)) l1_ c1_ k1_
  have b1 := F1.binds (ps := ["self", "record"]) fun _ _ _ _ _ _ us hl => match us, hl with | [_, _], _ => rfl
  have F2 := fun_mk (st := (sRec 2)) l2_ c2_ k2_
  have b2 := F2.binds (ps := ["self", "epoch", "place"]) fun _ _ _ _ _ _ us hl => match us, hl with | [_, _, _], _ => rfl
  have F3 := fun_mk (st := (sKee 0)) l3_ c3_ k3_
  have b3 := F3.binds (ps := ["self", "number"]) fun _ _ _ _ _ _ us hl => match us, hl with | [_, _], _ => rfl
  have F4 := fun_mk (st := (sKee 1)) l4_ c4_ k4_
  have b4 := F4.binds (ps := ["self"]) fun _ _ _ _ _ _ us hl => match us, hl with | [_], _ => rfl
  have F5 := fun_mk (st := (sKee 2)) l5_ c5_ k5_
  have b5 := F5.binds (ps := ["self", "letter"]) fun _ _ _ _ _ _ us hl => match us, hl with | [_, _], _ => rfl
  have F6 := fun_mk (st := (sKee 3)) l6_ c6_ k6_
  have b6 := F6.binds (ps := ["self", "known", "epoch", "place", "entry"]) fun _ _ _ _ _ _ us hl => match us, hl with | [_, _, _, _, _], _ => rfl
  have F7 := fun_mk (st := (sKee 4)) l7_ c7_ k7_
  have b7 := F7.binds (ps := ["self"]) fun _ _ _ _ _ _ us hl => match us, hl with | [_], _ => rfl
  have F8 := fun_mk (st := sWhole) l8_ c8_ k8_
  have b8 := F8.binds (ps := ["thing", "low", "high"]) fun _ _ _ _ _ _ us hl => match us, hl with | [_, _, _], _ => rfl
  have F9 := fun_mk (st := sMost) l9_ c9_ k9_
  have b9 := F9.binds (ps := ["many"]) fun _ _ _ _ _ _ us hl => match us, hl with | [_], _ => rfl
  have F10 := fun_mk (st := sTakers) l10_ c10_ k10_
  have b10 := F10.binds (ps := ["keepers", "epoch", "place", "entry"]) fun _ _ _ _ _ _ us hl => match us, hl with | [_, _, _, _], _ => rfl
  have F11 := fun_mk (st := sSetAt) l11_ c11_ k11_
  have b11 := F11.binds (ps := ["keepers", "place"]) fun _ _ _ _ _ _ us hl => match us, hl with | [_, _], _ => rfl
  have F12 := fun_mk (st := sSetRow) l12_ c12_ k12_
  have b12 := F12.binds (ps := ["keepers"]) fun _ _ _ _ _ _ us hl => match us, hl with | [_], _ => rfl
  have F13 := fun_mk (st := sNewest) l13_ c13_ k13_
  have b13 := F13.binds (ps := ["rows"]) fun _ _ _ _ _ _ us hl => match us, hl with | [_], _ => rfl
  have F14 := fun_mk (st := (sSeq 0)) l14_ c14_ k14_
  have b14 := F14.binds (ps := ["self", "epoch", "many"]) fun _ _ _ _ _ _ us hl => match us, hl with | [_, _, _], _ => rfl
  have F15 := fun_mk (st := (sSeq 1)) l15_ c15_ k15_
  have b15 := F15.binds (ps := ["self"]) fun _ _ _ _ _ _ us hl => match us, hl with | [_], _ => rfl
  have F16 := fun_mk (st := (sSeq 2)) l16_ c16_ k16_
  have b16 := F16.binds (ps := ["self", "letter"]) fun _ _ _ _ _ _ us hl => match us, hl with | [_, _], _ => rfl
  have F17 := fun_mk (st := (sSeq 3)) l17_ c17_ k17_
  have b17 := F17.binds (ps := ["self", "entry"]) fun _ _ _ _ _ _ us hl => match us, hl with | [_, _], _ => rfl
  have F18 := fun_mk (st := (sSeq 4)) l18_ c18_ k18_
  have b18 := F18.binds (ps := ["self"]) fun _ _ _ _ _ _ us hl => match us, hl with | [_], _ => rfl
  have F19 := fun_mk (st := (sCou 0)) l19_ c19_ k19_
  have b19 := F19.binds (ps := ["self", "many"]) fun _ _ _ _ _ _ us hl => match us, hl with | [_, _], _ => rfl
  have F20 := fun_mk (st := (sCou 1)) l20_ c20_ k20_
  have b20 := F20.binds (ps := ["self", "epoch"]) fun _ _ _ _ _ _ us hl => match us, hl with | [_, _], _ => rfl
  have F21 := fun_mk (st := (sCou 2)) l21_ c21_ k21_
  have b21 := F21.binds (ps := ["self", "number"]) fun _ _ _ _ _ _ us hl => match us, hl with | [_, _], _ => rfl
  have F22 := fun_mk (st := (sCou 3)) l22_ c22_ k22_
  have b22 := F22.binds (ps := ["self", "at", "is_kept"]) fun _ _ _ _ _ _ us hl => match us, hl with | [_, _, _], _ => rfl
  have F23 := fun_mk (st := (sCou 5)) l23_ c23_ k23_
  have b23 := F23.binds (ps := ["self", "number"]) fun _ _ _ _ _ _ us hl => match us, hl with | [_, _], _ => rfl
  have F24 := fun_mk (st := (sCou 8)) l24_ c24_ k24_
  have b24 := F24.binds (ps := ["self", "number", "up"]) fun _ _ _ _ _ _ us hl => match us, hl with | [_, _, _], _ => rfl
  have F25 := fun_mk (st := (sCou 9)) l25_ c25_ k25_
  have b25 := F25.binds (ps := ["self"]) fun _ _ _ _ _ _ us hl => match us, hl with | [_], _ => rfl
  have F26 := fun_mk (st := sNum) l26_ c26_ k26_
  have b26 := F26.binds (ps := ["_law_script", "_law_index"]) fun _ _ _ _ _ _ us hl => match us, hl with | [_, _], _ => rfl
  have F27 := fun_mk (st := sTake) l27_ c27_ k27_
  have b27 := F27.binds (ps := ["_law_draw", "_law_many"]) fun _ _ _ _ _ _ us hl => match us, hl with | [_, _], _ => rfl
  have F28 := fun_mk (st := sPick) l28_ c28_ k28_
  have b28 := F28.binds (ps := ["_law_draw", "_law_items"]) fun _ _ _ _ _ _ us hl => match us, hl with | [_, _], _ => rfl
  have F29 := fun_mk (st := sLaw) l29_ c29_ k29_
  have bad : BadTxt l.prog K mg cB cD fB :=
    { gC := PySem.W.mg_of X G gB_, cls := ⟨nm, q, N, bs, sn, sub, ab, col, dd, k0, k1, k2, k3, k5, bx_⟩, sa := bsa_, ga := bga_, gg := bgg_, noN := bnn_, iC := bi_, tC := bt_, kC := bk_, exC := be_, exE := bee_, tyC := bty_, hdC := bhd_, up := bup_, st := bst_,
      fn := ⟨_, _, .none, _, _, _, _, _, _, _, _, _, _, _, _, _, _, _, _, _, bl_, bc_, bcc_, bcd_, bv_, bf_⟩, top := btop_, su := PySem.W.mg_none_of X G nSup_ }
  have T : Txt l.prog K mg ⟨cR, cK, cS, cC, cB, cD, f0, f1, f2, f3, f4, f5, f6, f7, f8, f9, f10, f11, f12, f13, f14, f15, f16, f17, f18, f19, f20, f21, f22, f23, f24, f25, f26, f27, f28, fB⟩ :=
    { clR := ⟨pgR_, hdR_, poR_, saR_⟩,
      clK := ⟨pgK_, hdK_, poK_, saK_⟩,
      clS := ⟨pgS_, hdS_, poS_, saS_⟩,
      clC := ⟨pgC_, hdC_, poC_, saC_⟩,
      mkR := ⟨mkR_, a0_, i0_, kcR_⟩,
      gR := PySem.W.mg_of X G gR_,
      mkK := ⟨mkK_, a3_, i3_, kcK_⟩,
      gK := PySem.W.mg_of X G gK_,
      mkS := ⟨mkS_, a14_, i14_, kcS_⟩,
      gS := PySem.W.mg_of X G gS_,
      mkC := ⟨mkC_, a19_, i19_, kcC_⟩,
      gC := PySem.W.mg_of X G gC_,
      nRe := nRe_,
      nRr := nRr_,
      nKn := nKn_,
      nKr := nKr_,
      nKl := nKl_,
      nKw := nKw_,
      nSe := nSe_,
      nSm := nSm_,
      nSs := nSs_,
      nSr := nSr_,
      nSw := nSw_,
      nSt := nSt_,
      nCk := nCk_,
      nCs := nCs_,
      nCl := nCl_,
      sob := sob_,
      seq := seq_,
      rInit := ⟨_, F0, b0⟩,
      rPut := ⟨_, F1, b1⟩,
      mPut := ⟨a1_, i1_, k1_⟩,
      rFits := ⟨_, F2, b2⟩,
      mFits := ⟨a2_, i2_, k2_⟩,
      kInit := ⟨_, F3, b3⟩,
      kKept := ⟨_, F4, b4⟩,
      mKept := ⟨a4_, i4_, k4_⟩,
      kHandle := ⟨_, F5, b5⟩,
      mHandle := ⟨a5_, i5_, k5_⟩,
      kTake := ⟨_, F6, b6⟩,
      mTake := ⟨a6_, i6_, k6_⟩,
      kFlush := ⟨_, F7, b7⟩,
      mKFlush := ⟨a7_, i7_, k7_⟩,
      whole := ⟨_, F8, b8⟩,
      gWhole := PySem.W.mg_of X G a8_,
      most := ⟨_, F9, b9⟩,
      gMost := PySem.W.mg_of X G a9_,
      takers := ⟨_, F10, b10⟩,
      gTakers := PySem.W.mg_of X G a10_,
      setAt := ⟨_, F11, b11⟩,
      gSetAt := PySem.W.mg_of X G a11_,
      setRow := ⟨_, F12, b12⟩,
      gSetRow := PySem.W.mg_of X G a12_,
      newest := ⟨_, F13, b13⟩,
      gNewest := PySem.W.mg_of X G a13_,
      sInit := ⟨_, F14, b14⟩,
      sSend := ⟨_, F15, b15⟩,
      mSend := ⟨a15_, i15_, k15_⟩,
      sHear := ⟨_, F16, b16⟩,
      mHear := ⟨a16_, i16_, k16_⟩,
      sAdd := ⟨_, F17, b17⟩,
      mAdd := ⟨a17_, i17_, k17_⟩,
      sSettled := ⟨_, F18, b18⟩,
      mSSettled := ⟨a18_, i18_, k18_⟩,
      cInit := ⟨_, F19, b19⟩,
      cBegin := ⟨_, F20, b20⟩,
      mBegin := ⟨a20_, i20_, k20_⟩,
      cSend := ⟨_, F21, b21⟩,
      mCSend := ⟨a21_, i21_, k21_⟩,
      cDeliver := ⟨_, F22, b22⟩,
      mDeliver := ⟨a22_, i22_, k22_⟩,
      cFlush := ⟨_, F23, b23⟩,
      mCFlush := ⟨a23_, i23_, k23_⟩,
      cExch := ⟨_, F24, b24⟩,
      mExch := ⟨a24_, i24_, k24_⟩,
      cSettled := ⟨_, F25, b25⟩,
      mCSettled := ⟨a25_, i25_, k25_⟩,
      num := ⟨_, F26, b26⟩,
      gNum := PySem.W.mg_of X G a26_,
      take := ⟨_, F27, b27⟩,
      gTake := PySem.W.mg_of X G a27_,
      pick := ⟨_, F28, b28⟩,
      gPick := PySem.W.mg_of X G a28_,
      gAsk := ⟨_, PySem.W.mg_of X G gAsk_⟩,
      gLead := ⟨_, PySem.W.mg_of X G gLead_⟩,
      gStop := ⟨_, PySem.W.mg_of X G gStop_⟩,
      gMostE := ⟨_, PySem.W.mg_of X G gME_⟩,
      nLen := PySem.W.mg_none_of X G nLen_,
      nMax := PySem.W.mg_none_of X G nMax_,
      nRange := PySem.W.mg_none_of X G nRange_,
      nTuple := PySem.W.mg_none_of X G nTuple_,
      nList := PySem.W.mg_none_of X G nList_,
      nSorted := PySem.W.mg_none_of X G nSorted_,
      nIsi := PySem.W.mg_none_of X G nIsi_,
      nInt := PySem.W.mg_none_of X G nInt_,
      nBool := PySem.W.mg_none_of X G nBool_,
      nAbs := PySem.W.mg_none_of X G nAbs_,
      bad := bad,
      te := exm_self be_ bic_ bty_ bss_ }
  exact ⟨PySem.W.fnOf "law" "law" (defArgs sLaw) (defBody sLaw) (defScope sLaw) .none kV29 dc29 pm29 an29 cd29 ct29, fun s v => .of_eq rfl, fun base _ _ => g_law T F29⟩
theorem walk {l : PySem.W.OpenLaw} {q : Program} {loose : List Str} {XP : (Str → Option Value) → Heap → Prop} {YP : World → Heap → Prop} {d : DefRec} {K : Params → PySem.W.Frag} (hn : l.most = some 63) (hdf : d.params.defaults = [])
    (hY : ∀ (w : World) (h : Heap), YP w h → (K w.params).In h)
    (F : ∀ (w : World) (mg : Str → Option Value) (fa : Addr) (h : Heap), (K w.params).In h → h.Ns mainGlobals mg → mg d.name = some (.ref fa) →
      ∃ fd : FuncData, (∀ (s : Shared) (u : Value), BindsTo s fd ⟨[u], []⟩ [("_law_script", u)]) ∧ ∀ base : Heap, (K w.params).In base → base.Ns mainGlobals mg → FnOk l.prog w (K w.params) mg base CX0 7 fa fd ["_law_script"] (spLaw (K w.params))) :
    PySem.W.WalkO q loose XP YP l.row.toRowW d [] (fun f vs => PySem.call f vs) :=
  L2.walk_of (n := 63) (k := 7) (x := "_law_script") (CX := fun _ => CX0) (sp := fun w => spLaw (K w.params)) hn (by decide) hdf ⟨rfl, by decide, by decide⟩ hY F (fun _ _ a ns hl _ hS => ⟨a, ns, rfl, hS, hl, fun _ => rfl⟩) fun _ _ _ _ _ z => z
end K41
open PySem PySem.W PyProof.Rows
set_option maxRecDepth 100000 in
set_option maxHeartbeats 0 in
theorem PySem.Challenge.cw_mastcalls_k41_whole_takes_over_holds : PySem.Challenge.rw_mastcalls_k41_whole_takes_over.Holds := by
  w_on; o_law; k_head; (case hw => w_witness2)
  k_fill
  refine K41.walk (l := PySem.Challenge.rw_mastcalls_k41_whole_takes_over) rfl rfl (fun w h Y => PySem.W.kIn_of Y) ?F
  case F =>
    intro w mg fa h KX G hmg
    refine' K41.all_mk KX G hmg ?gR_ ?gK_ ?gS_ ?gC_ ?gB_ ?a0_ ?i0_ ?l0_ ?c0_ ?k0_ ?a1_ ?i1_ ?l1_ ?c1_ ?k1_ ?a2_ ?i2_ ?l2_ ?c2_ ?k2_ ?a3_ ?i3_ ?l3_ ?c3_ ?k3_ ?a4_ ?i4_ ?l4_ ?c4_ ?k4_ ?a5_ ?i5_ ?l5_ ?c5_ ?k5_ ?a6_ ?i6_ ?l6_ ?c6_ ?k6_ ?a7_ ?i7_ ?l7_ ?c7_ ?k7_ ?a8_ ?l8_ ?c8_ ?k8_ ?a9_ ?l9_ ?c9_ ?k9_ ?a10_ ?l10_ ?c10_ ?k10_ ?a11_ ?l11_ ?c11_ ?k11_ ?a12_ ?l12_ ?c12_ ?k12_ ?a13_ ?l13_ ?c13_ ?k13_ ?a14_ ?i14_ ?l14_ ?c14_ ?k14_ ?a15_ ?i15_ ?l15_ ?c15_ ?k15_ ?a16_ ?i16_ ?l16_ ?c16_ ?k16_ ?a17_ ?i17_ ?l17_ ?c17_ ?k17_ ?a18_ ?i18_ ?l18_ ?c18_ ?k18_ ?a19_ ?i19_ ?l19_ ?c19_ ?k19_ ?a20_ ?i20_ ?l20_ ?c20_ ?k20_ ?a21_ ?i21_ ?l21_ ?c21_ ?k21_ ?a22_ ?i22_ ?l22_ ?c22_ ?k22_ ?a23_ ?i23_ ?l23_ ?c23_ ?k23_ ?a24_ ?i24_ ?l24_ ?c24_ ?k24_ ?a25_ ?i25_ ?l25_ ?c25_ ?k25_ ?a26_ ?l26_ ?c26_ ?k26_ ?a27_ ?l27_ ?c27_ ?k27_ ?a28_ ?l28_ ?c28_ ?k28_ ?a29_ ?l29_ ?c29_ ?k29_ ?pgR_ ?hdR_ ?poR_ ?saR_ ?mkR_ ?kcR_ ?pgK_ ?hdK_ ?poK_ ?saK_ ?mkK_ ?kcK_ ?pgS_ ?hdS_ ?poS_ ?saS_ ?mkS_ ?kcS_ ?pgC_ ?hdC_ ?poC_ ?saC_ ?mkC_ ?kcC_ ?nRe_ ?nRr_ ?nKn_ ?nKr_ ?nKl_ ?nKw_ ?nSe_ ?nSm_ ?nSs_ ?nSr_ ?nSw_ ?nSt_ ?nCk_ ?nCs_ ?nCl_ ?sob_ ?seq_ ?gAsk_ ?gLead_ ?gStop_ ?gME_ ?nLen_ ?nMax_ ?nRange_ ?nTuple_ ?nList_ ?nSorted_ ?nIsi_ ?nInt_ ?nBool_ ?nAbs_ ?nSup_ ?bx_ ?bsa_ ?bga_ ?bgg_ ?bnn_ ?bi_ ?bt_ ?bk_ ?be_ ?bee_ ?bty_ ?bhd_ ?bic_ ?bss_ ?bup_ ?bst_ ?bl_ ?bc_ ?bcc_ ?bcd_ ?bv_ ?bf_ ?btop_
    (case gR_ => k_is)
    (case gK_ => k_is)
    (case gS_ => k_is)
    (case gC_ => k_is)
    (case gB_ => k_is)
    (case a0_ => k_is)
    (case i0_ => k_is)
    (case l0_ => k_is)
    (case c0_ => k_is)
    (case k0_ => k_is)
    (case a1_ => k_is)
    (case i1_ => k_is)
    (case l1_ => k_is)
    (case c1_ => k_is)
    (case k1_ => k_is)
    (case a2_ => k_is)
    (case i2_ => k_is)
    (case l2_ => k_is)
    (case c2_ => k_is)
    (case k2_ => k_is)
    (case a3_ => k_is)
    (case i3_ => k_is)
    (case l3_ => k_is)
    (case c3_ => k_is)
    (case k3_ => k_is)
    (case a4_ => k_is)
    (case i4_ => k_is)
    (case l4_ => k_is)
    (case c4_ => k_is)
    (case k4_ => k_is)
    (case a5_ => k_is)
    (case i5_ => k_is)
    (case l5_ => k_is)
    (case c5_ => k_is)
    (case k5_ => k_is)
    (case a6_ => k_is)
    (case i6_ => k_is)
    (case l6_ => k_is)
    (case c6_ => k_is)
    (case k6_ => k_is)
    (case a7_ => k_is)
    (case i7_ => k_is)
    (case l7_ => k_is)
    (case c7_ => k_is)
    (case k7_ => k_is)
    (case a8_ => k_is)
    (case l8_ => k_is)
    (case c8_ => k_is)
    (case k8_ => k_is)
    (case a9_ => k_is)
    (case l9_ => k_is)
    (case c9_ => k_is)
    (case k9_ => k_is)
    (case a10_ => k_is)
    (case l10_ => k_is)
    (case c10_ => k_is)
    (case k10_ => k_is)
    (case a11_ => k_is)
    (case l11_ => k_is)
    (case c11_ => k_is)
    (case k11_ => k_is)
    (case a12_ => k_is)
    (case l12_ => k_is)
    (case c12_ => k_is)
    (case k12_ => k_is)
    (case a13_ => k_is)
    (case l13_ => k_is)
    (case c13_ => k_is)
    (case k13_ => k_is)
    (case a14_ => k_is)
    (case i14_ => k_is)
    (case l14_ => k_is)
    (case c14_ => k_is)
    (case k14_ => k_is)
    (case a15_ => k_is)
    (case i15_ => k_is)
    (case l15_ => k_is)
    (case c15_ => k_is)
    (case k15_ => k_is)
    (case a16_ => k_is)
    (case i16_ => k_is)
    (case l16_ => k_is)
    (case c16_ => k_is)
    (case k16_ => k_is)
    (case a17_ => k_is)
    (case i17_ => k_is)
    (case l17_ => k_is)
    (case c17_ => k_is)
    (case k17_ => k_is)
    (case a18_ => k_is)
    (case i18_ => k_is)
    (case l18_ => k_is)
    (case c18_ => k_is)
    (case k18_ => k_is)
    (case a19_ => k_is)
    (case i19_ => k_is)
    (case l19_ => k_is)
    (case c19_ => k_is)
    (case k19_ => k_is)
    (case a20_ => k_is)
    (case i20_ => k_is)
    (case l20_ => k_is)
    (case c20_ => k_is)
    (case k20_ => k_is)
    (case a21_ => k_is)
    (case i21_ => k_is)
    (case l21_ => k_is)
    (case c21_ => k_is)
    (case k21_ => k_is)
    (case a22_ => k_is)
    (case i22_ => k_is)
    (case l22_ => k_is)
    (case c22_ => k_is)
    (case k22_ => k_is)
    (case a23_ => k_is)
    (case i23_ => k_is)
    (case l23_ => k_is)
    (case c23_ => k_is)
    (case k23_ => k_is)
    (case a24_ => k_is)
    (case i24_ => k_is)
    (case l24_ => k_is)
    (case c24_ => k_is)
    (case k24_ => k_is)
    (case a25_ => k_is)
    (case i25_ => k_is)
    (case l25_ => k_is)
    (case c25_ => k_is)
    (case k25_ => k_is)
    (case a26_ => k_is)
    (case l26_ => k_is)
    (case c26_ => k_is)
    (case k26_ => k_is)
    (case a27_ => k_is)
    (case l27_ => k_is)
    (case c27_ => k_is)
    (case k27_ => k_is)
    (case a28_ => k_is)
    (case l28_ => k_is)
    (case c28_ => k_is)
    (case k28_ => k_is)
    (case a29_ => k_is)
    (case l29_ => k_is)
    (case c29_ => k_is)
    (case k29_ => k_is)
    (case pgR_ => k_is)
    (case hdR_ => k_is)
    (case poR_ => k_is)
    (case saR_ => k_is)
    (case mkR_ => k_is)
    (case kcR_ => k_is)
    (case pgK_ => k_is)
    (case hdK_ => k_is)
    (case poK_ => k_is)
    (case saK_ => k_is)
    (case mkK_ => k_is)
    (case kcK_ => k_is)
    (case pgS_ => k_is)
    (case hdS_ => k_is)
    (case poS_ => k_is)
    (case saS_ => k_is)
    (case mkS_ => k_is)
    (case kcS_ => k_is)
    (case pgC_ => k_is)
    (case hdC_ => k_is)
    (case poC_ => k_is)
    (case saC_ => k_is)
    (case mkC_ => k_is)
    (case kcC_ => k_is)
    (case nRe_ => k_is)
    (case nRr_ => k_is)
    (case nKn_ => k_is)
    (case nKr_ => k_is)
    (case nKl_ => k_is)
    (case nKw_ => k_is)
    (case nSe_ => k_is)
    (case nSm_ => k_is)
    (case nSs_ => k_is)
    (case nSr_ => k_is)
    (case nSw_ => k_is)
    (case nSt_ => k_is)
    (case nCk_ => k_is)
    (case nCs_ => k_is)
    (case nCl_ => k_is)
    (case sob_ => k_is)
    (case seq_ => k_is)
    (case gAsk_ => k_is)
    (case gLead_ => k_is)
    (case gStop_ => k_is)
    (case gME_ => k_is)
    (case nLen_ => k_is)
    (case nMax_ => k_is)
    (case nRange_ => k_is)
    (case nTuple_ => k_is)
    (case nList_ => k_is)
    (case nSorted_ => k_is)
    (case nIsi_ => k_is)
    (case nInt_ => k_is)
    (case nBool_ => k_is)
    (case nAbs_ => k_is)
    (case nSup_ => k_is)
    (case bx_ => k_is)
    (case bsa_ => k_is)
    (case bga_ => k_is)
    (case bgg_ => k_is)
    (case bnn_ => k_is)
    (case bi_ => k_is)
    (case bt_ => k_is)
    (case bk_ => k_is)
    (case be_ => k_is)
    (case bee_ => k_is)
    (case bty_ => k_is)
    (case bhd_ => k_is)
    (case bic_ => k_is)
    (case bss_ => first | rfl | k_is)
    (case bup_ => first | k_is | rfl)
    (case bst_ => k_is)
    (case bl_ => k_is)
    (case bc_ => k_is)
    (case bcc_ => k_is)
    (case bcd_ => k_is)
    (case bv_ => first | rfl | k_is)
    (case bf_ => first | rfl | decide +kernel | k_is)
    (case btop_ => first | rfl | decide +kernel)
