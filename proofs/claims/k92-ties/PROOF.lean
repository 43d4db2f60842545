import PyProof.Rows.All
import HandS.ForMost
import HandS.ForExc
import HandS.Style
import HandS.Conv
import HandS.DictTup
import HandS.Words
import HandS.WordsExc
import HandS.Defaults
import PySem.Challenge.RW_planestacks_k92_whole_ties_of_products
import KE.KStateDown
import HandS.Head0
import HandS.Head1
import HandS.Head2
import HandS.HeadEnd
import HandS.HeadHook1
import HandS.HeadHook2
import HandS.HeadHook3
import HandS.HeadHook4
set_option Elab.async false
set_option linter.all false
section
set_option maxRecDepth 100000
/-! Pe0: keys of dicts that are tuples of ints, texts and such tuples, at any depth. -/
namespace Pe
open PySem PySem.Spec PyProof.Rows

mutual
/-- a key within a key: an int, a text, a tuple of such, n deep at most -/
def keyN : Nat → PyData → Bool
  | _, .int _ => true
  | _, .str x => PyData.strOk x
  | n + 1, .tuple ds => keysN n ds
  | _, _ => false
def keysN : Nat → List PyData → Bool
  | _, [] => true
  | n, d :: ds => keyN n d && keysN n ds
end
/-- a dict's key: a tuple -/
def isKey : PyData → Bool
  | .tuple ds => keysN 6 ds
  | _ => false

mutual
def hashD (w : World) : PyData → Int
  | .int i => hashInt i
  | .str x => hashStr w x
  | .tuple ds => reduceHash (Builtin.Tuple.tupleHashOf (hashDs w ds))
  | _ => 0
def hashDs (w : World) : List PyData → List Int
  | [] => []
  | d :: ds => hashD w d :: hashDs w ds
end
mutual
def drawD : PyData → Nat
  | .tuple ds => drawDs ds + 1
  | _ => 1
def drawDs : List PyData → Nat
  | [] => 0
  | d :: ds => drawD d + drawDs ds
end

mutual
inductive KeyAt (h : Heap) : PyData → Value → Prop
  | int (i : Int) (t : Tok) : KeyAt h (.int i) (.int i t)
  | str (x : Str) (t : Tok) : KeyAt h (.str x) (.str x t)
  | tup {a : Addr} {o : Obj} {items : Array Value} {n : Nat} {ds : List PyData} : h.get? a = some o → o.cls = .type "tuple" → o.data = .seq items n → KeysAt h ds items.toList → KeyAt h (.tuple ds) (.ref a)
inductive KeysAt (h : Heap) : List PyData → List Value → Prop
  | nil : KeysAt h [] []
  | cons {d : PyData} {v : Value} {ds : List PyData} {vs : List Value} : KeyAt h d v → KeysAt h ds vs → KeysAt h (d :: ds) (v :: vs)
end
section
variable {h h' : Heap}
mutual
theorem KeyAt.inj : ∀ {x y : PyData} {v : Value}, KeyAt h x v → KeyAt h y v → x = y
  | _, _, _, .int i t, .int _ _ => rfl
  | _, _, _, .str i t, .str _ _ => rfl
  | _, _, _, .tup e _ d k, .tup e' _ d' k' => by
    rw [e] at e'
    cases e'
    rw [d] at d'
    injection d' with d1 _
    subst d1
    rw [KeysAt.inj k k']
theorem KeysAt.inj : ∀ {x y : List PyData} {v : List Value}, KeysAt h x v → KeysAt h y v → x = y
  | _, _, _, .nil, .nil => rfl
  | _, _, _, .cons a b, .cons c d => by rw [KeyAt.inj a c, KeysAt.inj b d]
end
mutual
theorem KeyAt.at' (k : ∀ b o items n, h.get? b = some o → o.cls = .type "tuple" → o.data = .seq items n → h'.get? b = some o) : ∀ {x : PyData} {v : Value}, KeyAt h x v → KeyAt h' x v
  | _, _, .int i t => .int i t
  | _, _, .str i t => .str i t
  | _, _, .tup e c d r => .tup (k _ _ _ _ e c d) c d (KeysAt.at' k r)
theorem KeysAt.at' (k : ∀ b o items n, h.get? b = some o → o.cls = .type "tuple" → o.data = .seq items n → h'.get? b = some o) : ∀ {x : List PyData} {v : List Value}, KeysAt h x v → KeysAt h' x v
  | _, _, .nil => .nil
  | _, _, .cons a b => .cons (KeyAt.at' k a) (KeysAt.at' k b)
end
mutual
theorem KeyAt.reads : ∀ {x : PyData} {v : Value}, KeyAt h x v → ∃ as, Reads h v x as
  | _, _, .int i t => ⟨_, .int i t⟩
  | _, _, .str i t => ⟨_, .str i t⟩
  | _, _, .tup e c d r => let ⟨as, q⟩ := KeysAt.reads r; ⟨as, .tuple e c d q⟩
theorem KeysAt.reads : ∀ {x : List PyData} {v : List Value}, KeysAt h x v → ∃ as, ReadsAll h v x as
  | _, _, .nil => ⟨_, .nil⟩
  | _, _, .cons a b => let ⟨_, q⟩ := KeyAt.reads a; let ⟨_, r⟩ := KeysAt.reads b; ⟨_, .cons q r⟩
end
end

section
variable {prog : Program} {w : World}
/-- the hash of a key within a key -/
def HashP (prog : Program) (w : World) (n : Nat) (d : PyData) : Prop := ∀ (A : Around) (E : Value → Shared → Prop) (s : Shared) (v : Value) (Q : Int → Shared → Prop), A.units + 4 * n < cLine → KeyAt s.heap d v →
  Q (hashD w d) { s with toks := s.toks + drawD d } → wpAny (model prog w) A (pyHash v) Q E s
inductive AllP (P : PyData → Prop) : List PyData → Prop
  | nil : AllP P []
  | cons {d : PyData} {ds : List PyData} : P d → AllP P ds → AllP P (d :: ds)
theorem hashDs_snoc (w : World) : ∀ (a : List PyData) (d : PyData), hashDs w (a ++ [d]) = hashDs w a ++ [hashD w d]
  | [], d => rfl
  | x :: a, d => by
    show hashD w x :: hashDs w (a ++ [d]) = _
    rw [hashDs_snoc w a d]
    rfl
theorem drawDs_snoc : ∀ (a : List PyData) (d : PyData), drawDs (a ++ [d]) = drawDs a + drawD d
  | [], d => by
    show drawD d + 0 = 0 + drawD d
    omega
  | x :: a, d => by
    show drawD x + drawDs (a ++ [d]) = drawD x + drawDs a + drawD d
    rw [drawDs_snoc a d]
    omega
theorem hash_tuple {n : Nat} {ds : List PyData} (ih : AllP (HashP prog w n) ds) : HashP prog w (n + 1) (.tuple ds) := by
  intro A E s v Q hu hk h
  cases hk with
  | @tup a o items nn ds ho hc hd hi =>
  have hT : s.TypeIs (.ref a) "tuple" := ⟨o, ho, hc⟩
  unfold pyHash
  first | unfold pyHashByItsType | skip
  first | refine wpAny_bind (wpAny_cRoomFor_or (.inr (show A.units < cLine by omega)) ?_) | skip
  refine wpAny_bind (wpAny_specialOf hT F.slot_tuple_hash.lookup ?_)
  show wpAny _ _ (if (some (Value.builtin "tuple.__hash__") == some Value.none) = true then _ else _) Q E s
  rw [if_neg (by rw [beq_builtin_none]; exact Bool.false_ne_true)]
  refine wpAny_bind (wpAny_specialOf hT F.slot_tuple_hash.lookup ?_)
  show wpAny _ _ (callSpecialIfBoundUnlessNone? (.ref a) "__hash__" _ >>= _) Q E s
  refine wpAny_bind (wpAny_callSpecialIfBoundUnlessNone?_slot hT F.slot_tuple_hash (wpAny_call_entry F.slot_tuple_hash hT F.entry_tuple_hash ?_ (F.args_tuple_hash_1 _)))
  show wpAny _ _ (Builtin.Tuple.tupleItemsOf (.ref a) >>= _) _ _ s
  refine wpAny_bind (wpAny_tupleItemsOf ho hd ?_)
  refine wpAny_bind ?_
  rw [← Array.forIn_toList]
  refine wpAny_forIn_list _
    (fun rest (b : Array Int) s' => ∃ done left, ds = done ++ left ∧ AllP (HashP prog w n) left ∧ KeysAt s.heap left rest ∧ b.toList = hashDs w done ∧ s' = { s with toks := s.toks + drawDs done })
    _ ?_ ?_ _ _ ⟨[], ds, rfl, ih, hi, rfl, rfl⟩
  · rintro x rest b s' ⟨done, left, rfl, hp, hl, hb, rfl⟩
    cases hl with
    | @cons k _ ks' _ h1 hl' =>
      cases hp with
      | cons p1 p2 =>
      refine wpAny_bind (p1 _ _ _ _ _ ?_ h1 ?_)
      · show A.units + 1 + 4 * n < cLine
        omega
      · first
        | exact wpAny_pure ⟨done ++ [k], ks', by simp, p2, hl', by simp [hb, hashDs_snoc], by simp [Nat.add_assoc, drawDs_snoc]⟩
        | exact wpAny_bind (wpAny_pure (wpAny_pure ⟨done ++ [k], ks', by simp, p2, hl', by simp [hb, hashDs_snoc], by simp [Nat.add_assoc, drawDs_snoc]⟩))
  · rintro b s' ⟨done, left, rfl, hp, hl, hb, rfl⟩
    cases hl
    rw [List.append_nil] at h
    show wpAny _ _ (retInt (Builtin.Tuple.tupleHashOf b.toList)) _ _ _
    rw [hb]
    refine wpAny_ret_mkInt ?_
    show wpAny _ _ (if (decide (-(2 : Int) ^ 63 ≤ Builtin.Tuple.tupleHashOf (hashDs w done)) && decide (Builtin.Tuple.tupleHashOf (hashDs w done) < 2 ^ 63)) = true then _ else _) Q E _
    have h : Q (reduceHash (Builtin.Tuple.tupleHashOf (hashDs w done))) { s with toks := s.toks + (drawDs done + 1) } := h
    unfold reduceHash at h
    by_cases hr : (decide (-(2 : Int) ^ 63 ≤ Builtin.Tuple.tupleHashOf (hashDs w done)) && decide (Builtin.Tuple.tupleHashOf (hashDs w done) < 2 ^ 63)) = true
    · rw [if_pos hr]
      rw [if_pos hr] at h
      exact wpAny_pure (by simpa [Nat.add_assoc] using h)
    · rw [if_neg hr]
      rw [if_neg hr] at h
      exact wpAny_bind (wpAny_rule (wpAny_pure (by simpa [Nat.add_assoc] using h)))

mutual
theorem hash_key : ∀ (n : Nat) (d : PyData), keyN n d = true → HashP prog w n d
  | n, .int i, _ => fun A E s v Q hu hk h => by
    cases hk
    exact wpAny_pyHash_int h
  | n, .str x, _ => fun A E s v Q hu hk h => by
    cases hk
    exact wpAny_pyHash_str h
  | n + 1, .tuple ds, k => hash_tuple (hash_keys n ds k)
  | 0, .tuple _, k => by cases k
  | _, .none, k => by cases k
  | _, .bool _, k => by cases k
  | _, .list _, k => by cases k
  | _, .dict _, k => by cases k
theorem hash_keys : ∀ (n : Nat) (ds : List PyData), keysN n ds = true → AllP (HashP prog w n) ds
  | _, [], _ => .nil
  | n, d :: ds, k => by
    have k' : (keyN n d && keysN n ds) = true := k
    rw [Bool.and_eq_true] at k'
    exact .cons (hash_key n d k'.1) (hash_keys n ds k'.2)
end

/-! ### keys are alike just where they are one -/
mutual
theorem key_eqv : ∀ (n m : Nat) (d e : PyData), keyN n d = true → keyN m e = true → (PyData.eqv d e = true ↔ d = e)
  | _, _, .int i, .int j, _, _ => by simp [PyData.eqv]
  | _, _, .str i, .str j, _, _ => by simp [PyData.eqv]
  | _, _, .int i, .str j, _, _ => by simp [PyData.eqv]
  | _, _, .str i, .int j, _, _ => by simp [PyData.eqv]
  | _, _, .int i, .tuple j, _, _ => by simp [PyData.eqv]
  | _, _, .tuple i, .int j, _, _ => by simp [PyData.eqv]
  | _, _, .str i, .tuple j, _, _ => by simp [PyData.eqv]
  | _, _, .tuple i, .str j, _, _ => by simp [PyData.eqv]
  | n + 1, m + 1, .tuple xs, .tuple ys, h, k => by
    have z := keys_eqv n m xs ys h k
    show PyData.eqvAll xs ys = true ↔ _
    rw [z]
    simp
  | 0, _, .tuple _, .tuple _, h, _ => by cases h
  | _ + 1, 0, .tuple _, .tuple _, _, h => by cases h
  | _, _, .none, _, h, _ => by cases h
  | _, _, .bool _, _, h, _ => by cases h
  | _, _, .list _, _, h, _ => by cases h
  | _, _, .dict _, _, h, _ => by cases h
  | _, _, _, .none, _, h => by cases h
  | _, _, _, .bool _, _, h => by cases h
  | _, _, _, .list _, _, h => by cases h
  | _, _, _, .dict _, _, h => by cases h
theorem keys_eqv : ∀ (n m : Nat) (d e : List PyData), keysN n d = true → keysN m e = true → (PyData.eqvAll d e = true ↔ d = e)
  | _, _, [], [], _, _ => by simp [PyData.eqvAll]
  | _, _, [], _ :: _, _, _ => by simp [PyData.eqvAll]
  | _, _, _ :: _, [], _, _ => by simp [PyData.eqvAll]
  | n, m, x :: xs, y :: ys, h, k => by
    have h' : (keyN n x && keysN n xs) = true := h
    have k' : (keyN m y && keysN m ys) = true := k
    rw [Bool.and_eq_true] at h' k'
    show (PyData.eqv x y && PyData.eqvAll xs ys) = true ↔ _
    rw [Bool.and_eq_true, key_eqv n m x y h'.1 k'.1, keys_eqv n m xs ys h'.2 k'.2]
    simp
end
end

noncomputable instance decD : DecidableEq PyData := fun a b => Classical.propDecidable (a = b)

mutual
theorem keyN_lay : ∀ (n : Nat) (d : PyData), keyN n d = true → d.canLay0 = true ∧ d.depth ≤ n
  | n, .int i, _ => ⟨by simp [PyData.canLay0], by simp [PyData.depth]⟩
  | n, .str x, k => ⟨by
    have k' : PyData.strOk x = true := k
    simp [PyData.canLay0, k'], by simp [PyData.depth]⟩
  | n + 1, .tuple ds, k => by
    obtain ⟨h1, h2⟩ := keysN_lay n ds k
    exact ⟨by simp [PyData.canLay0, h1], by simp [PyData.depth]; omega⟩
  | 0, .tuple _, k => by cases k
  | _, .none, k => by cases k
  | _, .bool _, k => by cases k
  | _, .list _, k => by cases k
  | _, .dict _, k => by cases k
theorem keysN_lay : ∀ (n : Nat) (ds : List PyData), keysN n ds = true → PyData.canLayAll0 ds = true ∧ PyData.depthAll ds ≤ n
  | _, [], _ => ⟨by simp [PyData.canLayAll0], by simp [PyData.depthAll]⟩
  | n, d :: ds, k => by
    have k' : (keyN n d && keysN n ds) = true := k
    rw [Bool.and_eq_true] at k'
    obtain ⟨h1, h2⟩ := keyN_lay n d k'.1
    obtain ⟨h3, h4⟩ := keysN_lay n ds k'.2
    exact ⟨by simp [PyData.canLayAll0, h1, h3], by simp [PyData.depthAll]; omega⟩
end
section
variable {prog : Program} {w : World}
/-- quiet: all plain -/
def QuietP (prog : Program) (w : World) (n : Nat) (d : PyData) : Prop := ∀ (A : Around) (E : Value → Shared → Prop) (s : Shared) (v : Value) (m : Nat) (Q : Bool → Shared → Prop), n ≤ m → KeyAt s.heap d v → Q true s → wpAny (model prog w) A (eqIsQuiet m v) Q E s
theorem quiet_tuple {n : Nat} {ds : List PyData} (ih : AllP (QuietP prog w n) ds) : QuietP prog w (n + 1) (.tuple ds) := by
  intro A E s v m Q hm hk h
  cases hk with
  | @tup a o items nn ds ho hc hd hi =>
  have hT : s.TypeIs (.ref a) "tuple" := ⟨o, ho, hc⟩
  obtain ⟨m, rfl⟩ : ∃ k, m = k + 1 := ⟨m - 1, by omega⟩
  unfold eqIsQuiet
  refine wpAny_bind (wpAny_specialOf hT F.slot_tuple_eq.lookup ?_)
  show wpAny _ _ (isInstance (.ref a) (.type "tuple") >>= _) _ _ s
  refine wpAny_bind (wpAny_isInstance hT isSubtype_tuple_tuple ?_)
  simp only [Bool.not_true, Bool.false_eq_true, if_false]
  refine wpAny_bind (wpAny_seqItems ho hd ?_)
  refine wpAny_bind ?_
  show wpAny _ _ (forIn items _ _) _ _ s
  rw [← Array.forIn_toList]
  refine wpAny_forIn_list _ (fun rest r s' => r.1 = none ∧ s' = s ∧ ∃ left, AllP (QuietP prog w n) left ∧ KeysAt s.heap left rest) _ ?_ ?_ _ _ ⟨rfl, rfl, ds, ih, hi⟩
  · rintro v rest r s' ⟨hr, rfl, left, hp, hl⟩
    cases hl with
    | cons h1 h2 =>
      cases hp with
      | cons p1 p2 =>
      refine wpAny_bind (p1 _ _ _ _ _ _ (by omega) h1 ?_)
      simp only [Bool.not_true, Bool.false_eq_true, if_false]
      exact wpAny_pure ⟨rfl, rfl, _, p2, h2⟩
  · rintro ⟨r1, r2⟩ s' ⟨hr, rfl, _⟩
    simp only at hr
    subst hr
    exact wpAny_pure h
mutual
theorem quiet_key : ∀ (n : Nat) (d : PyData), keyN n d = true → QuietP prog w n d
  | n, .int i, _ => fun A E s v m Q hu hk h => by
    cases hk
    rw [eqIsQuiet_byValue _ rfl]
    exact wpAny_pure h
  | n, .str x, _ => fun A E s v m Q hu hk h => by
    cases hk
    rw [eqIsQuiet_byValue _ rfl]
    exact wpAny_pure h
  | n + 1, .tuple ds, k => quiet_tuple (quiet_keys n ds k)
  | 0, .tuple _, k => by cases k
  | _, .none, k => by cases k
  | _, .bool _, k => by cases k
  | _, .list _, k => by cases k
  | _, .dict _, k => by cases k
theorem quiet_keys : ∀ (n : Nat) (ds : List PyData), keysN n ds = true → AllP (QuietP prog w n) ds
  | _, [], _ => .nil
  | n, d :: ds, k => by
    have k' : (keyN n d && keysN n ds) = true := k
    rw [Bool.and_eq_true] at k'
    exact .cons (quiet_key n d k'.1) (quiet_keys n ds k'.2)
end
theorem isKey_N {d : PyData} (h : isKey d = true) : keyN 7 d = true := by
  cases d <;> first | exact h | cases h
/-- the kind of such keys -/
def nk (prog : Program) (w : World) : HeapKind prog w PyData where
  is := fun h d a => isKey d = true ∧ KeyAt h d (.ref a)
  hash := hashD w
  draws := drawD
  room := fun A => A.units + 64 < cLine
  inj := fun a b => a.2.inj b.2
  keeps := fun {h h' k a d o es ep} x ho hd hs => ⟨x.1, x.2.at' fun b ob items n e c dd => by
    have ne : b ≠ d := by
      rintro rfl
      rw [ho] at e
      cases e
      rw [hd] at dd
      cases dd
    exact (hs.2 b ne).trans e⟩
  pyHash := fun {A E s k a Q} hu hk h => hash_key 7 k (isKey_N hk.1) A E s (.ref a) Q (by omega) hk.2 h
  eqBool := fun {A E s x y a b Q} hu hx hy h => by
    obtain ⟨as, ra⟩ := hx.2.reads
    obtain ⟨bs, rb⟩ := hy.2.reads
    obtain ⟨c1, c2⟩ := keyN_lay 7 x (isKey_N hx.1)
    obtain ⟨c3, c4⟩ := keyN_lay 7 y (isKey_N hy.1)
    refine SeqAt.eqBoolOverData prog w A E s _ _ x y as bs Q ra rb c1 c3 (by omega) ?_
    have e : PyData.eqv x y = decide (x = y) := by
      rw [Bool.eq_iff_iff, key_eqv 7 7 x y (isKey_N hx.1) (isKey_N hy.1)]
      simp
    rw [e]
    exact h
  quiet := fun {A E s k a Q} hk h => quiet_key 7 k (isKey_N hk.1) A E s (.ref a) 8 Q (by omega) hk.2 h
end
end Pe
end

section

/-! Pe1: a small language of pure code (trees for data, names by slots), and what it comes to. -/
namespace Pe
open PySem

abbrev D := PyData

/-! ### the language -/
inductive Bop where
  | add | sub | mul | fdiv | mod | pow
inductive Cop where
  | eq | ne | lt | le | gt | ge | isN | notN | mem | nmem
/-- built-in functions called with values -/
inductive Blt where
  | len | abs | max2 | min2 | int | str | list | tuple | sorted | any | all | isInt | isBool | isStr | isTuple | isList | isDict | max | min | sum | tupRg1 | listRg1 | sortedSet | dictZip
/-- methods of built-in types that change nothing -/
inductive Mth where
  | get1 | get2 | index | count | partition | split | join | replace

mutual
inductive CE where
  | k (d : D)
  | v (i : Nat)
  | g (n : Nat)
  | bin (o : Bop) (a b : CE)
  | neg (a : CE)
  | cmp (o : Cop) (a b : CE)
  | chain (o p : Cop) (a b c : CE)
  | bnot (a : CE)
  | band (a b : CE)
  | bor (a b : CE)
  | ifx (t a b : CE)
  | tup (es : CEs)
  | lst (es : CEs)
  | dct (es : CEs)
  | call (f : Nat) (es : CEs)
  | blt (b : Blt) (es : CEs)
  | mt (m : Mth) (o : CE) (es : CEs)
  | ix (a i : CE)
  | sl (a : CE) (lo hi : CEs)
  | rv (a : CE)
  | comp (e : CE) (tg : Tgt) (k : Ik) (it : CEs) (c : CEs) (own : List Nat)
inductive CEs where
  | nil
  | cons (e : CE) (es : CEs)
inductive Tgt where
  | nm (i : Nat)
  | tp (ts : Tgts)
inductive Tgts where
  | nil
  | cons (t : Tgt) (ts : Tgts)
/-- what is walked -/
inductive Ik where
  | seq | keys | range | enum | zip | items
end

mutual
inductive CS where
  | asg (i : Nat) (e : CE)
  | unp (t : Tgt) (e : CE)
  | par (i j : Nat) (a b : CE)
  | aug (i : Nat) (o : Bop) (e : CE)
  | put (x : Nat) (i e : CE)
  | augx (x : Nat) (i : CE) (o : Bop) (e : CE)
  | append (x : Nat) (e : CE)
  | extend (x : Nat) (e : CE)
  | pop (x : Nat)
  | asgPop (i : Nat) (x : Nat)
  | unpPop (t : Tgt) (x : Nat)
  | ret (e : CE)
  | ite (t : CE) (a b : CSs)
  | whl (t : CE) (b : CSs)
  | for_ (tg : Tgt) (k : Ik) (it : CEs) (b : CSs)
  | brk | cnt | pass
  | raise (c : Nat)
inductive CSs where
  | nil
  | cons (s : CS) (r : CSs)
end

/-- a def: how many parameters, how many slots, the body -/
structure Fn where
  np : Nat
  ns : Nat
  body : CSs

/-! ### values of slots -/
inductive Slot where
  | un
  | im (d : D)
  | own (d : D)
/-- where a value comes from: a tree for ever; a new list or dict; the list or dict of a slot -/
inductive Src where
  | im | fr | sl (i : Nat)
abbrev Rho := List Slot
def rdS : Slot → Option D
  | .un => none
  | .im d => some d
  | .own d => some d
def frzS : Slot → Slot
  | .un => .un
  | .im d => .im d
  | .own d => .im d
/-- a value is handed on for good -/
def frz : Src → Rho → Rho
  | .im, ρ => ρ
  | .fr, ρ => ρ
  | .sl i, ρ => ρ.set i (frzS (ρ.getD i .un))
def putS : Src → D → Slot
  | .im, d => .im d
  | .fr, d => .own d
  | .sl _, d => .im d

inductive Res where
  | val (d : D)
  | exc (c : Nat)

/-! ### operators by values -/
def mulOk (i j : Int) : Prop := PySem.IntMulOk i j
def divOk (i j : Int) : Prop := j ≠ 0 ∧ Builtin.divisionGoesByPylong i j = false
def powOk (i j : Int) : Prop := 0 ≤ j ∧ j ≤ 1000000 ∧ i.natAbs < 2 ^ 64
def repL (xs : List D) (k : Int) : List D := (List.replicate k.toNat xs).flatten
def binR : Bop → D → D → (D → Src → Prop) → Prop
  | .add, .int i, .int j, Q => Q (.int (i + j)) .im
  | .sub, .int i, .int j, Q => Q (.int (i - j)) .im
  | .mul, .int i, .int j, Q => mulOk i j ∧ Q (.int (i * j)) .im
  | .fdiv, .int i, .int j, Q => divOk i j ∧ Q (.int (i.fdiv j)) .im
  | .mod, .int i, .int j, Q => j ≠ 0 ∧ Q (.int (i.fmod j)) .im
  | .pow, .int i, .int j, Q => powOk i j ∧ Q (.int (i ^ j.toNat)) .im
  | .add, .str x, .str y, Q => x.length + y.length ≤ sizeLine ∧ Q (.str (x ++ y)) .im
  | .add, .list xs, .list ys, Q => xs.length + ys.length ≤ sizeLine ∧ Q (.list (xs ++ ys)) .fr
  | .add, .tuple xs, .tuple ys, Q => xs.length + ys.length ≤ sizeLine ∧ Q (.tuple (xs ++ ys)) .im
  | .mul, .list xs, .int k, Q => (k < 2 ^ 62 ∧ -(2 ^ 62) ≤ k ∧ xs.length * k.toNat ≤ sizeLine) ∧ Q (.list (repL xs k)) .fr
  | _, _, _, _ => False
/-- == of data -/
abbrev eqd : D → D → Bool := PyData.eqv
def okEq (d : D) : Prop := SeqAt.shaped d = true
def memR (x : D) (xs : List D) : Prop := okEq x ∧ ∀ y ∈ xs, okEq y
def memB (x : D) (xs : List D) : Bool := xs.any fun y => eqd y x
/-- a dict's value at a key -/
def getD (kvs : List (D × D)) (k : D) : Option D := (kvs.find? fun p => eqd p.1 k).map (·.2)
def hasStr (x y : Str) : Bool := !(Builtin.Str.occurrences y x 0 y.length 1).isEmpty
def memOf (neg : Bool) (x y : D) (Q : D → Src → Prop) : Prop := match y with
  | .list ys => memR x ys ∧ Q (.bool (memB x ys ^^ neg)) .im
  | .tuple ys => memR x ys ∧ Q (.bool (memB x ys ^^ neg)) .im
  | .str t => ∃ s, x = .str s ∧ Q (.bool (hasStr s t ^^ neg)) .im
  | .dict kvs => isKey x = true ∧ Q (.bool ((getD kvs x).isSome ^^ neg)) .im
  | _ => False
def isNone : D → Bool
  | .none => true
  | _ => false
def cmpR : Cop → D → D → (D → Src → Prop) → Prop
  | .eq, a, b, Q => okEq a ∧ okEq b ∧ Q (.bool (eqd a b)) .im
  | .ne, a, b, Q => okEq a ∧ okEq b ∧ Q (.bool (!eqd a b)) .im
  | .lt, a, b, Q => ∃ i j, a = .int i ∧ b = .int j ∧ Q (.bool (decide (i < j))) .im
  | .le, a, b, Q => ∃ i j, a = .int i ∧ b = .int j ∧ Q (.bool (decide (i ≤ j))) .im
  | .gt, a, b, Q => ∃ i j, a = .int i ∧ b = .int j ∧ Q (.bool (decide (j < i))) .im
  | .ge, a, b, Q => ∃ i j, a = .int i ∧ b = .int j ∧ Q (.bool (decide (j ≤ i))) .im
  | .isN, a, b, Q => b = .none ∧ Q (.bool (isNone a)) .im
  | .notN, a, b, Q => b = .none ∧ Q (.bool (!isNone a)) .im
  | .mem, a, b, Q => memOf false a b Q
  | .nmem, a, b, Q => memOf true a b Q
def negR (a : D) (Q : D → Src → Prop) : Prop := ∃ i, a = .int i ∧ Q (.int (-i)) .im
/-- a[i] -/
def ixR (a i : D) (Q : D → Src → Prop) : Prop := match a with
  | .list xs => ∃ j v, i = .int j ∧ L2.atI xs j = some v ∧ Q v .im
  | .tuple xs => ∃ j v, i = .int j ∧ L2.atI xs j = some v ∧ Q v .im
  | .str z => ∃ j c, i = .int j ∧ z.length ≤ sizeLine ∧ L2.atI z.cps.toList j = some c ∧ Q (.str ⟨#[c]⟩) .im
  | .dict kvs => isKey i = true ∧ ∃ v, getD kvs i = some v ∧ Q v .im
  | _ => False
def cutD (xs : List D) (lo hi : Option Int) : List D := (xs.drop (HT.sIx xs.length 0 lo)).take (HT.sIx xs.length xs.length hi - HT.sIx xs.length 0 lo)
def optI : List D → Option (Option Int)
  | [] => some none
  | [.int i] => some (some i)
  | _ => none
def slR (a : D) (lo hi : Option Int) (Q : D → Src → Prop) : Prop := match a with
  | .list xs => Q (.list (cutD xs lo hi)) .fr
  | .tuple xs => Q (.tuple (cutD xs lo hi)) .im
  | _ => False
def rvR (a : D) (Q : D → Src → Prop) : Prop := match a with
  | .list xs => Q (.list xs.reverse) .fr
  | .tuple xs => Q (.tuple xs.reverse) .im
  | _ => False
def boolsOf : List D → Option (List Bool)
  | [] => some []
  | .bool b :: r => (boolsOf r).map (b :: ·)
  | _ => none
def intsOf : List D → Option (List Int)
  | [] => some []
  | .int b :: r => (intsOf r).map (b :: ·)
  | _ => none
/-- ints put in order -/
def insI (x : Int) : List Int → List Int
  | [] => [x]
  | y :: ys => if x ≤ y then x :: y :: ys else y :: insI x ys
def sortI : List Int → List Int
  | [] => []
  | x :: xs => insI x (sortI xs)
def seqOf : D → Option (List D)
  | .list xs => some xs
  | .tuple xs => some xs
  | _ => none
def rgD (n : Nat) (lo : Int) : List D := (List.range n).map fun i => .int (lo + (i : Nat))
def bltR : Blt → List D → (D → Src → Prop) → Prop
  | .len, [.list xs], Q => Q (.int xs.length) .im
  | .len, [.tuple xs], Q => Q (.int xs.length) .im
  | .len, [.str x], Q => x.length ≤ sizeLine ∧ Q (.int x.length) .im
  | .abs, [.int i], Q => Q (.int (if i < 0 then -i else i)) .im
  | .max2, [.int i, .int j], Q => Q (.int (if j > i then j else i)) .im
  | .min2, [.int i, .int j], Q => Q (.int (if j < i then j else i)) .im
  | .int, [.bool b], Q => Q (.int (if b then 1 else 0)) .im
  | .int, [.int i], Q => Q (.int i) .im
  | .str, [.int i], Q => i.natAbs.log2 < 1920 ∧ Q (.str (toString i)) .im
  | .list, [.list xs], Q => Q (.list xs) .fr
  | .list, [.tuple xs], Q => Q (.list xs) .fr
  | .tuple, [.list xs], Q => Q (.tuple xs) .im
  | .tuple, [.tuple xs], Q => Q (.tuple xs) .im
  | .any, [.list xs], Q => ∃ bs, boolsOf xs = some bs ∧ Q (.bool (bs.any id)) .im
  | .all, [.list xs], Q => ∃ bs, boolsOf xs = some bs ∧ Q (.bool (bs.all id)) .im
  | .sorted, [.list xs], Q => ∃ ns, intsOf xs = some ns ∧ ns.length < 64 ∧ Q (.list ((sortI ns).map .int)) .fr
  | .sorted, [.tuple xs], Q => ∃ ns, intsOf xs = some ns ∧ ns.length < 64 ∧ Q (.list ((sortI ns).map .int)) .fr
  | .tupRg1, [.int n], Q => (-(2 ^ 62) ≤ n ∧ n ≤ 16777216) ∧ Q (.tuple (rgD n.toNat 0)) .im
  | .listRg1, [.int n], Q => (-(2 ^ 62) ≤ n ∧ n ≤ 16777216) ∧ Q (.list (rgD n.toNat 0)) .fr
  | _, _, _ => False
/-- whose method it is -/
def rcvR : Mth → D → Prop
  | .get2, .dict _ => True
  | .get1, .dict _ => True
  | _, _ => False
def mtR : Mth → D → List D → (D → Src → Prop) → Prop
  | .get2, .dict kvs, [k, d], Q => isKey k = true ∧ Q ((getD kvs k).getD d) .im
  | .get1, .dict kvs, [k], Q => isKey k = true ∧ Q ((getD kvs k).getD .none) .im
  | _, _, _, _ => False
/-- d[k] = v -/
def putD (kvs : List (D × D)) (k v : D) : List (D × D) :=
  if kvs.any fun p => eqd p.1 k then kvs.map fun p => if eqd p.1 k then (p.1, v) else p else kvs ++ [(k, v)]
/-- {k: v, ..}: keys and values in turns -/
def putsD : List (D × D) → List D → List (D × D)
  | acc, k :: v :: r => putsD (putD acc k v) r
  | acc, _ => acc
def keysOk : List D → Bool
  | [] => true
  | k :: _ :: r => isKey k && keysOk r
  | _ => false

/-! ### what is walked -/
def strsOf (x : Str) : List D := x.cps.toList.map fun c => .str ⟨#[c]⟩
def zipD : List D → List D → List D
  | x :: xs, y :: ys => .tuple [x, y] :: zipD xs ys
  | _, _ => []
def enumD : Nat → List D → List D
  | _, [] => []
  | i, x :: xs => .tuple [.int i, x] :: enumD (i + 1) xs
def rgSmall (i : Int) : Prop := -(2 ^ 62) ≤ i ∧ i < 2 ^ 62
def downD (n : Nat) (lo : Int) : List D := (List.range n).map fun i => .int (lo - (i : Nat))
def ikR : Ik → List D → (List D → Prop) → Prop
  | .seq, [.list xs], Q => Q xs
  | .seq, [.tuple xs], Q => Q xs
  | .seq, [.str x], Q => Q (strsOf x)
  | .keys, [.dict kvs], Q => Q (kvs.map (·.1))
  | .items, [.dict kvs], Q => Q (kvs.map fun p => .tuple [p.1, p.2])
  | .range, [.int n], Q => rgSmall n ∧ Q (rgD n.toNat 0)
  | .range, [.int i, .int j], Q => rgSmall i ∧ rgSmall j ∧ Q (rgD (j - i).toNat i)
  | .range, [.int i, .int j, .int c], Q => rgSmall i ∧ rgSmall j ∧ c = -1 ∧ Q (downD (i - j).toNat i)
  | .enum, [.list xs], Q => Q (enumD 0 xs)
  | .enum, [.tuple xs], Q => Q (enumD 0 xs)
  | .zip, [a, b], Q => ∃ xs ys, seqOf a = some xs ∧ seqOf b = some ys ∧ Q (zipD xs ys)
  | _, _, _ => False

/-! ### targets -/
mutual
def tgR : Tgt → D → Rho → (Rho → Prop) → Prop
  | .nm i, d, ρ, Q => Q (ρ.set i (.im d))
  | .tp ts, d, ρ, Q => match d with
    | .tuple ds => tgsR ts ds ρ Q
    | .list ds => tgsR ts ds ρ Q
    | _ => False
def tgsR : Tgts → List D → Rho → (Rho → Prop) → Prop
  | .nil, ds, ρ, Q => match ds with
    | [] => Q ρ
    | _ => False
  | .cons t ts, ds, ρ, Q => match ds with
    | d :: ds => tgR t d ρ fun ρ' => tgsR ts ds ρ' Q
    | [] => False
end

/-! ### expressions -/
/-- a comprehension's own slots: forgotten at its start; behind it as they were, if they were trees -/
def wipeE (ρ : Rho) : List Nat → Rho
  | [] => ρ
  | v :: vs => (wipeE ρ vs).set v .un
def backE (ρ₀ ρ : Rho) : List Nat → Rho
  | [] => ρ
  | v :: vs => (backE ρ₀ ρ vs).set v (match ρ₀.getD v .un with
    | .im d => .im d
    | _ => .un)
/-- a comprehension's turns -/
def compR (turn : D → Rho → (Option D → Rho → Prop) → Prop) : List D → List D → Rho → (List D → Rho → Prop) → Prop
  | [], acc, ρ, Q => Q acc ρ
  | x :: xs, acc, ρ, Q => turn x ρ fun r ρ' => match r with
    | some d => acc.length < sizeLine ∧ compR turn xs (acc ++ [d]) ρ' Q
    | none => compR turn xs acc ρ' Q

/-- a comprehension's condition -/
def condB : List D → Option Bool
  | [] => some true
  | [.bool b] => some b
  | _ => none
def turnR (g : D → Rho → (Rho → Prop) → Prop) (c : Rho → (List D → Rho → Prop) → Prop) (e : Rho → (D → Src → Rho → Prop) → Prop) (x : D) (ρ : Rho) (K : Option D → Rho → Prop) : Prop :=
  g x ρ fun ρ3 => c ρ3 fun ts ρ4 => ∃ b, condB ts = some b ∧ if b = true then e ρ4 fun d s ρ5 => K (some d) (frz s ρ5) else K none ρ4

variable (G : Nat → D) (Γ : Nat → List D → Res → Prop)
abbrev KE := D → Src → Rho → Prop
mutual
def wpE (X : Nat → Prop) : CE → Rho → (D → Src → Rho → Prop) → Prop
  | .k d, ρ, Q => Q d .im ρ
  | .v i, ρ, Q => match ρ.getD i .un with
    | .un => False
    | .im d => Q d .im ρ
    | .own d => Q d (.sl i) ρ
  | .g n, ρ, Q => Q (G n) .im ρ
  | .bin o a b, ρ, Q => wpE X a ρ fun x _ ρ1 => wpE X b ρ1 fun y _ ρ2 => binR o x y fun d s => Q d s ρ2
  | .neg a, ρ, Q => wpE X a ρ fun x _ ρ1 => negR x fun d s => Q d s ρ1
  | .cmp o a b, ρ, Q => wpE X a ρ fun x _ ρ1 => wpE X b ρ1 fun y _ ρ2 => cmpR o x y fun d s => Q d s ρ2
  | .chain o p a b c, ρ, Q => wpE X a ρ fun x _ ρ1 => wpE X b ρ1 fun y _ ρ2 => cmpR o x y fun r _ => ∃ t, r = .bool t ∧
      if t = true then wpE X c ρ2 fun z _ ρ3 => cmpR p y z fun d s => Q d s ρ3 else Q (.bool false) .im ρ2
  | .bnot a, ρ, Q => wpE X a ρ fun x _ ρ1 => ∃ t, x = .bool t ∧ Q (.bool (!t)) .im ρ1
  | .band a b, ρ, Q => wpE X a ρ fun x _ ρ1 => ∃ t, x = .bool t ∧ if t = true then wpE X b ρ1 Q else Q (.bool false) .im ρ1
  | .bor a b, ρ, Q => wpE X a ρ fun x _ ρ1 => ∃ t, x = .bool t ∧ if t = true then Q (.bool true) .im ρ1 else wpE X b ρ1 Q
  | .ifx t a b, ρ, Q => wpE X t ρ fun x _ ρ1 => ∃ c, x = .bool c ∧ if c = true then wpE X a ρ1 Q else wpE X b ρ1 Q
  | .tup es, ρ, Q => wpA X es ρ fun ds ρ1 => ds.length ≤ sizeLine ∧ Q (.tuple ds) .im ρ1
  | .lst es, ρ, Q => wpA X es ρ fun ds ρ1 => ds.length ≤ sizeLine ∧ Q (.list ds) .fr ρ1
  | .dct es, ρ, Q => wpA X es ρ fun ds ρ1 => (keysOk ds = true ∧ ds.length ≤ 30) ∧ Q (.dict (putsD [] ds)) .fr ρ1
  | .call f es, ρ, Q => wpA X es ρ fun ds ρ1 => ∃ r, Γ f ds r ∧ match r with
    | .val d => Q d .im ρ1
    | .exc c => X c
  | .blt b es, ρ, Q => wpR X es ρ fun ds ρ1 => bltR b ds fun d s => Q d s ρ1
  | .mt m o es, ρ, Q => wpE X o ρ fun x _ ρ1 => rcvR m x ∧ wpA X es ρ1 fun ds ρ2 => mtR m x ds fun d s => Q d s ρ2
  | .ix a i, ρ, Q => wpE X a ρ fun x _ ρ1 => wpE X i ρ1 fun y _ ρ2 => ixR x y fun d s => Q d s ρ2
  | .sl a lo hi, ρ, Q => wpE X a ρ fun x _ ρ1 => wpR X lo ρ1 fun l ρ2 => ∃ l', optI l = some l' ∧ wpR X hi ρ2 fun h ρ3 => ∃ h', optI h = some h' ∧ slR x l' h' fun d s => Q d s ρ3
  | .rv a, ρ, Q => wpE X a ρ fun x _ ρ1 => rvR x fun d s => Q d s ρ1
  | .comp e tg k it c own, ρ, Q => wpA X it ρ fun ds ρ1 => ikR k ds fun xs =>
      compR (turnR (fun x ρ2 Q => tgR tg x (wipeE ρ2 own) Q) (fun ρ3 Q => wpR (fun _ => False) c ρ3 Q) (fun ρ4 Q => wpE (fun _ => False) e ρ4 Q)) xs [] ρ1 fun ds ρ' => Q (.list ds) .fr (backE ρ1 ρ' own)
/-- handed on -/
def wpA (X : Nat → Prop) : CEs → Rho → (List D → Rho → Prop) → Prop
  | .nil, ρ, Q => Q [] ρ
  | .cons e es, ρ, Q => wpE X e ρ fun d s ρ1 => wpA X es (frz s ρ1) fun ds ρ2 => Q (d :: ds) ρ2
/-- read -/
def wpR (X : Nat → Prop) : CEs → Rho → (List D → Rho → Prop) → Prop
  | .nil, ρ, Q => Q [] ρ
  | .cons e es, ρ, Q => wpE X e ρ fun d _ ρ1 => wpR X es ρ1 fun ds ρ2 => Q (d :: ds) ρ2
end

/-! ### statements -/
structure PEnds where
  nx : Rho → Prop
  rt : D → Prop
  bk : Rho → Prop
  ct : Rho → Prop
  ex : Nat → Prop
def whlN (t : Rho → (Bool → Rho → Prop) → Prop) (b : Rho → PEnds → Prop) (K : PEnds) : Nat → Rho → Prop
  | 0, _ => False
  | n + 1, ρ => t ρ fun c ρ1 => if c = true then b ρ1 ⟨whlN t b K n, K.rt, K.nx, whlN t b K n, K.ex⟩ else K.nx ρ1
def forN (g : D → Rho → (Rho → Prop) → Prop) (b : Rho → PEnds → Prop) (K : PEnds) : List D → Rho → Prop
  | [], ρ => K.nx ρ
  | x :: xs, ρ => g x ρ fun ρ1 => b ρ1 ⟨forN g b K xs, K.rt, K.nx, forN g b K xs, K.ex⟩
/-- x[i] = v -/
def putR (c i v : D) (Q : D → Prop) : Prop := match c with
  | .list xs => ∃ j n, i = .int j ∧ L2.ixN xs.length j = some n ∧ Q (.list (xs.set n v))
  | .dict kvs => isKey i = true ∧ kvs.length < sizeLine ∧ Q (.dict (putD kvs i v))
  | _ => False
/-- two ints -/
def binI (o : Bop) (x y : D) (Q : D → Prop) : Prop := ∃ i j, x = .int i ∧ y = .int j ∧ binR o x y fun d _ => Q d
def ownR (ρ : Rho) (x : Nat) (Q : D → Prop) : Prop := match ρ.getD x .un with
  | .own d => Q d
  | _ => False
def listR (d : D) (Q : List D → Prop) : Prop := match d with
  | .list xs => Q xs
  | _ => False
def popR (ρ : Rho) (x : Nat) (Q : D → Rho → Prop) : Prop := ownR ρ x fun c => listR c fun xs => ∃ v, xs[xs.length - 1]? = some v ∧ Q v (ρ.set x (.own (.list xs.dropLast)))
mutual
def wpS : CS → Rho → PEnds → Prop
  | .asg i e, ρ, K => wpE G Γ K.ex e ρ fun d s ρ1 => K.nx ((frz s ρ1).set i (putS s d))
  | .unp t e, ρ, K => wpE G Γ K.ex e ρ fun d s ρ1 => tgR t d (frz s ρ1) K.nx
  | .par i j a b, ρ, K => wpE G Γ K.ex a ρ fun x s ρ1 => wpE G Γ K.ex b (frz s ρ1) fun y t ρ2 => K.nx (((frz t ρ2).set i (.im x)).set j (.im y))
  | .aug i o e, ρ, K => ∃ x, rdS (ρ.getD i .un) = some x ∧ wpE G Γ K.ex e ρ fun y _ ρ1 => binI o x y fun z => K.nx (ρ1.set i (.im z))
  | .put x i e, ρ, K => wpE G Γ K.ex e ρ fun v s ρ1 => ownR (frz s ρ1) x fun _ => wpE G Γ K.ex i (frz s ρ1) fun k t ρ2 => ownR (frz t ρ2) x fun c => putR c k v fun c' => K.nx ((frz t ρ2).set x (.own c'))
  | .augx x i o e, ρ, K => ownR ρ x fun _ => wpE G Γ K.ex i ρ fun k t ρ1 => ownR (frz t ρ1) x fun c => listR c fun xs => ixR (.list xs) k fun old _ => wpE G Γ K.ex e (frz t ρ1) fun y _ ρ2 => binI o old y fun z =>
      ownR ρ2 x fun c => putR c k z fun c' => K.nx (ρ2.set x (.own c'))
  | .append x e, ρ, K => ownR ρ x fun c0 => listR c0 fun _ => wpE G Γ K.ex e ρ fun d s ρ1 => ownR (frz s ρ1) x fun c => listR c fun xs => xs.length < sizeLine ∧ K.nx ((frz s ρ1).set x (.own (.list (xs ++ [d]))))
  | .extend x e, ρ, K => ownR ρ x fun c0 => listR c0 fun _ => wpE G Γ K.ex e ρ fun d _ ρ1 => listR d fun ys => ownR ρ1 x fun c => listR c fun xs => xs.length + ys.length ≤ sizeLine ∧ K.nx (ρ1.set x (.own (.list (xs ++ ys))))
  | .pop x, ρ, K => popR ρ x fun _ ρ1 => K.nx ρ1
  | .asgPop i x, ρ, K => popR ρ x fun v ρ1 => K.nx (ρ1.set i (.im v))
  | .unpPop t x, ρ, K => popR ρ x fun v ρ1 => tgR t v ρ1 K.nx
  | .ret e, ρ, K => wpE G Γ K.ex e ρ fun d _ _ => K.rt d
  | .ite t a b, ρ, K => wpE G Γ K.ex t ρ fun d _ ρ1 => ∃ c, d = .bool c ∧ if c = true then wpB a ρ1 K else wpB b ρ1 K
  | .whl t b, ρ, K => ∃ n, whlN (fun ρ Q => wpE G Γ K.ex t ρ fun d _ ρ1 => ∃ c, d = .bool c ∧ Q c ρ1) (fun ρ K' => wpB b ρ K') K n ρ
  | .for_ tg k it b, ρ, K => wpA G Γ K.ex it ρ fun ds ρ1 => ikR k ds fun xs => forN (fun x ρ Q => tgR tg x ρ Q) (fun ρ K' => wpB b ρ K') K xs ρ1
  | .brk, ρ, K => K.bk ρ
  | .cnt, ρ, K => K.ct ρ
  | .pass, ρ, K => K.nx ρ
  | .raise c, _, K => K.ex c
def wpB : CSs → Rho → PEnds → Prop
  | .nil, ρ, K => K.nx ρ
  | .cons s r, ρ, K => wpS s ρ ⟨fun ρ1 => wpB r ρ1 K, K.rt, K.bk, K.ct, K.ex⟩
end
/-- a def's slots at its start -/
def startE (fn : Fn) (ds : List D) : Rho := ds.map .im ++ List.replicate (fn.ns - ds.length) .un
/-- the body comes to r -/
def bodyR (fn : Fn) (ds : List D) (r : Res) : Prop := ds.length = fn.np ∧
  wpB G Γ fn.body (startE fn ds) ⟨fun _ => r = .val .none, fun d => r = .val d, fun _ => False, fun _ => False, fun c => r = .exc c⟩
/-- calls to a depth; M: what is known otherwise -/
def Calls (G : Nat → D) (T : Nat → Option Fn) (M : Nat → Nat → List D → Res → Prop) : Nat → Nat → List D → Res → Prop
  | 0, _, _, _ => False
  | n + 1, f, ds, r => M n f ds r ∨ ∃ fn, T f = some fn ∧ bodyR G (Calls G T M n) fn ds r
end Pe
end

section
set_option maxRecDepth 100000
/-! Pe3: how trees stand in the abstract heap, how slots do. -/
namespace Pe
open PySem PySem.Spec PyProof.Rows L2

abbrev KW := PySem.W.Frag × World
abbrev DX := List (D × Addr × V)
/-- a dict's entries in the machine -/
abbrev VX : DX → List (D × Addr × Value) → Prop := Paired fun p q => p.1 = q.1 ∧ p.2.1 = q.2.1 ∧ RelV p.2.2 q.2.2
def entN (w : World) (x : D × Addr × Value) : DictEntry := ⟨hashD w x.1, .ref x.2.1, x.2.2⟩
def PhiN (w : World) (a : Addr) (xs : DX) (h : Heap) : Prop := (a == sysModules) = false ∧ xs.length ≤ sizeLine ∧ ∃ o es ep vs, h.get? a = some o ∧ o.ExactDict ∧ o.data = .dict es ep ∧ VX xs vs ∧ es.toList = vs.map (entN w) ∧ (xs.map (·.1)).Nodup
/-- a dict whose keys are tuples -/
def dN (w : World) (a : Addr) (xs : DX) : HO := .ext (PhiN w a xs)

mutual
/-- the value v is the tree d, by what stands in F for good -/
inductive Rep (K : KW) (F : Hp) : V → D → Prop
  | non : Rep K F .non .none
  | bl (b : Bool) : Rep K F (.bl b) (.bool b)
  | int (i : Int) : Rep K F (.int i) (.int i)
  | str (x : Str) : Rep K F (.str x) (.str x)
  | lst {a : Addr} {xs : List V} {ds : List D} : Rd F a (.lst xs) → RepL K F xs ds → Rep K F (.ref a) (.list ds)
  | tup {a : Addr} {xs : List V} {ds : List D} : SqT K.1 F a xs → RepL K F xs ds → Rep K F (.ref a) (.tuple ds)
  | dN {a : Addr} {kvs : DX} {ds : List (D × D)} : Rd F a (dN K.2 a kvs) → RepM K F kvs ds → Rep K F (.ref a) (.dict ds)
inductive RepL (K : KW) (F : Hp) : List V → List D → Prop
  | nil : RepL K F [] []
  | cons {v : V} {vs : List V} {d : D} {ds : List D} : Rep K F v d → RepL K F vs ds → RepL K F (v :: vs) (d :: ds)
inductive RepM (K : KW) (F : Hp) : DX → List (D × D) → Prop
  | nil : RepM K F [] []
  | cons {k : D} {q : Addr} {v : V} {vs : DX} {d : D} {ds : List (D × D)} : isKey k = true → Rep K F (.ref q) k → Rep K F v d → RepM K F vs ds → RepM K F ((k, q, v) :: vs) ((k, d) :: ds)
end

/-- the same, or locked -/
def Lk (o o' : HO) : Prop := o' = o ∨ (Mut (some o) ∧ ∃ od, o' = .frz od o)
/-- G holds all that F holds, perhaps locked -/
def Sub (F G : Hp) : Prop := ∀ a o, F a = some o → ∃ o', G a = some o' ∧ Lk o o'
theorem Sub.refl (F : Hp) : Sub F F := fun _ o h => ⟨o, h, .inl rfl⟩
theorem Lk.trans {a b c : HO} (x : Lk a b) (y : Lk b c) : Lk a c := by
  rcases x with rfl | ⟨m, od, rfl⟩
  · exact y
  · rcases y with rfl | ⟨m', _⟩
    · exact .inr ⟨m, od, rfl⟩
    · exact m'.elim
theorem Sub.trans {A B C : Hp} (x : Sub A B) (y : Sub B C) : Sub A C := fun a o h => by
  obtain ⟨o1, h1, l1⟩ := x a o h
  obtain ⟨o2, h2, l2⟩ := y a o1 h1
  exact ⟨o2, h2, l1.trans l2⟩
theorem Sub.frz {F G : Hp} (s : Sub F G) {a : Addr} {od : Obj} {u : HO} (h : F a = some (.frz od u)) : G a = some (.frz od u) := by
  obtain ⟨o, h1, l⟩ := s _ _ h
  rcases l with rfl | ⟨m, _⟩
  · exact h1
  · exact m.elim
theorem Sub.rd {F G : Hp} (s : Sub F G) {a : Addr} {u : HO} (h : Rd F a u) : Rd G a u := by
  rcases h with h | ⟨o, h⟩
  · obtain ⟨o, h1, l⟩ := s _ _ h
    rcases l with rfl | ⟨m, od, rfl⟩
    · exact .inl h1
    · exact .inr ⟨od, h1⟩
  · exact .inr ⟨o, s.frz h⟩
/-- what two heaps agree in but for one new place -/
theorem Sub.of_eq {F G : Hp} (h : ∀ a o, F a = some o → G a = some o) : Sub F G := fun a o e => ⟨o, h a o e, .inl rfl⟩
theorem Sub.sqL {K : PySem.W.Frag} {F G : Hp} (s : Sub F G) {a : Addr} {xs : List V} (h : SqL K F a xs) : SqL K G a xs := by
  rcases h with h | h
  · exact .inl (s.rd h)
  · exact .inr h
theorem Sub.sqT {K : PySem.W.Frag} {F G : Hp} (s : Sub F G) {a : Addr} {xs : List V} (h : SqT K F a xs) : SqT K G a xs := by
  rcases h with h | h
  · exact .inl (s.rd h)
  · exact .inr h
section
variable {K : KW} {F G : Hp}
mutual
theorem Rep.mono (s : Sub F G) : ∀ {v : V} {d : D}, Rep K F v d → Rep K G v d
  | _, _, .non => .non
  | _, _, .bl b => .bl b
  | _, _, .int i => .int i
  | _, _, .str x => .str x
  | _, _, .lst h r => .lst (s.rd h) (RepL.mono s r)
  | _, _, .tup h r => .tup (s.sqT h) (RepL.mono s r)
  | _, _, .dN h r => .dN (s.rd h) (RepM.mono s r)
theorem RepL.mono (s : Sub F G) : ∀ {v : List V} {d : List D}, RepL K F v d → RepL K G v d
  | _, _, .nil => .nil
  | _, _, .cons h r => .cons (Rep.mono s h) (RepL.mono s r)
theorem RepM.mono (s : Sub F G) : ∀ {v : DX} {d : List (D × D)}, RepM K F v d → RepM K G v d
  | _, _, .nil => .nil
  | _, _, .cons z q h r => .cons z (Rep.mono s q) (Rep.mono s h) (RepM.mono s r)
end
theorem RepL.length : ∀ {vs : List V} {ds : List D}, RepL K F vs ds → vs.length = ds.length
  | _, _, .nil => rfl
  | _, _, .cons _ r => congrArg (· + 1) (RepL.length r)
theorem RepL.get : ∀ {vs : List V} {ds : List D} {i : Nat} {d : D}, RepL K F vs ds → ds[i]? = some d → ∃ v, vs[i]? = some v ∧ Rep K F v d
  | _, _, _, _, .nil, h => by simp at h
  | _, _, 0, _, .cons r _, h => by
    simp at h
    subst h
    exact ⟨_, rfl, r⟩
  | _, _, i + 1, d, .cons _ t, h => by
    obtain ⟨v, h1, h2⟩ := RepL.get (i := i) (d := d) t (by simpa using h)
    exact ⟨v, by simpa using h1, h2⟩
theorem RepL.getV : ∀ {vs : List V} {ds : List D} {i : Nat} {v : V}, RepL K F vs ds → vs[i]? = some v → ∃ d, ds[i]? = some d ∧ Rep K F v d
  | _, _, _, _, .nil, h => by simp at h
  | _, _, 0, _, .cons r _, h => by
    simp at h
    subst h
    exact ⟨_, rfl, r⟩
  | _, _, i + 1, d, .cons _ t, h => by
    obtain ⟨v, h1, h2⟩ := RepL.getV (i := i) (v := d) t (by simpa using h)
    exact ⟨v, by simpa using h1, h2⟩
theorem RepL.append : ∀ {vs ws : List V} {ds es : List D}, RepL K F vs ds → RepL K F ws es → RepL K F (vs ++ ws) (ds ++ es)
  | _, _, _, _, .nil, r => r
  | _, _, _, _, .cons h t, r => .cons h (RepL.append t r)
theorem RepL.take : ∀ {vs : List V} {ds : List D} (n : Nat), RepL K F vs ds → RepL K F (vs.take n) (ds.take n)
  | _, _, 0, _ => .nil
  | _, _, _ + 1, .nil => .nil
  | _, _, n + 1, .cons h t => .cons h (RepL.take n t)
theorem RepL.drop : ∀ {vs : List V} {ds : List D} (n : Nat), RepL K F vs ds → RepL K F (vs.drop n) (ds.drop n)
  | _, _, 0, r => r
  | _, _, _ + 1, .nil => .nil
  | _, _, n + 1, .cons _ t => RepL.drop n t
theorem RepL.snoc {vs : List V} {ds : List D} {v : V} {d : D} (r : RepL K F vs ds) (h : Rep K F v d) : RepL K F (vs ++ [v]) (ds ++ [d]) := r.append (.cons h .nil)
theorem RepL.reverse : ∀ {vs : List V} {ds : List D}, RepL K F vs ds → RepL K F vs.reverse ds.reverse
  | _, _, .nil => .nil
  | _, _, .cons h t => by
    rw [List.reverse_cons, List.reverse_cons]
    exact (RepL.reverse t).snoc h
theorem RepL.dropLast {vs : List V} {ds : List D} (r : RepL K F vs ds) : RepL K F vs.dropLast ds.dropLast := by
  rw [List.dropLast_eq_take, List.dropLast_eq_take, r.length]
  exact r.take _
theorem RepL.set : ∀ {vs : List V} {ds : List D} (i : Nat) {v : V} {d : D}, RepL K F vs ds → Rep K F v d → RepL K F (vs.set i v) (ds.set i d)
  | _, _, _, _, _, .nil, _ => .nil
  | _, _, 0, _, _, .cons _ t, h => .cons h t
  | _, _, i + 1, _, _, .cons g t, h => .cons g (RepL.set i t h)
theorem RepL.rep {vs : List V} {ds : List D} (r : RepL K F vs ds) : ∀ n : Nat, RepL K F (List.replicate n vs).flatten (List.replicate n ds).flatten
  | 0 => .nil
  | n + 1 => by
    rw [List.replicate_succ, List.replicate_succ, List.flatten_cons, List.flatten_cons]
    exact r.append (RepL.rep r n)
theorem RepL.ints : ∀ {vs : List V} {ns : List Int}, RepL K F vs (ns.map .int) → vs = ns.map .int
  | _, [], h => by
    cases h
    rfl
  | _, n :: ns, h => by
    cases h with
    | cons h t =>
      cases h
      rw [RepL.ints t]
      rfl
theorem RepL.of_ints : ∀ ns : List Int, RepL K F (ns.map .int) (ns.map .int)
  | [] => .nil
  | n :: ns => .cons (.int n) (RepL.of_ints ns)
theorem RepM.length : ∀ {vs : DX} {ds : List (D × D)}, RepM K F vs ds → vs.length = ds.length
  | _, _, .nil => rfl
  | _, _, .cons _ _ _ r => congrArg (· + 1) (RepM.length r)
end

/-- a list or a dict that may change stands at p -/
def HasAt (K : KW) (F H : Hp) (p : Addr) : D → Prop
  | .list ds => ∃ xs, H p = some (.lst xs) ∧ RepL K F xs ds
  | .dict ds => ∃ kvs, H p = some (dN K.2 p kvs) ∧ RepM K F kvs ds
  | _ => False
/-- where code runs: the heap at its entry, what of it stands for good -/
structure At where
  H0 : Hp
  F0 : Hp
structure Fin (T : At) (F H : Hp) : Prop where
  keep : ∀ a o, T.H0 a = some o → H a = some o ∨ (T.F0 a ≠ none ∧ Mut (some o) ∧ ∃ od, H a = some (.frz od o))
  base : Sub T.F0 F
  old : ∀ a, Mut (T.H0 a) → T.F0 a = none → F a = none
  fh : Sub F H
/-- p is ours: no one else's, not for good -/
structure Ours (T : At) (F : Hp) (p : Addr) : Prop where
  f : F p = none
  h0 : T.H0 p = none
structure Rel (K : KW) (T : At) (F H : Hp) (ρ : Rho) (σ : L2.St) : Prop where
  fin : Fin T F H
  len : σ.length = ρ.length
  im : ∀ (i : Nat) (d : D), ρ[i]? = some (.im d) → ∃ v, σ[i]? = some (some v) ∧ Rep K F v d
  own : ∀ (i : Nat) (d : D), ρ[i]? = some (.own d) → ∃ p, σ[i]? = some (some (.ref p)) ∧ Ours T F p ∧ HasAt K F H p d
  inj : ∀ (i j : Nat) (d e : D) (p : Addr), ρ[i]? = some (.own d) → ρ[j]? = some (.own e) → σ[i]? = some (some (.ref p)) → σ[j]? = some (some (.ref p)) → i = j
/-- no slot's own -/
def Loose (ρ : Rho) (σ : L2.St) (p : Addr) : Prop := ∀ (i : Nat) (d : D), ρ[i]? = some (.own d) → σ[i]? ≠ some (some (.ref p))
/-- where a value comes from -/
def SrcOk (K : KW) (T : At) (F H : Hp) (ρ : Rho) (σ : L2.St) (v : V) (d : D) : Src → Prop
  | .im => Rep K F v d
  | .fr => ∃ p, v = .ref p ∧ Ours T F p ∧ HasAt K F H p d ∧ Loose ρ σ p
  | .sl i => σ[i]? = some (some v) ∧ ρ[i]? = some (.own d)
/-- a list or a dict to be read stands at p -/
def HasRd (K : KW) (F H : Hp) (p : Addr) : D → Prop
  | .list ds => ∃ xs, Rd H p (.lst xs) ∧ RepL K F xs ds
  | .dict ds => ∃ kvs, Rd H p (dN K.2 p kvs) ∧ RepM K F kvs ds
  | _ => False
/-- read: the top in H, the rest for good -/
inductive Top (K : KW) (F H : Hp) : V → D → Prop
  | im {v : V} {d : D} : Rep K F v d → Top K F H v d
  | at_ {p : Addr} {d : D} : HasRd K F H p d → Top K F H (.ref p) d

section
variable {K : KW} {T : At} {F F' H H' : Hp} {ρ : Rho} {σ : L2.St} {v : V} {d : D} {p : Addr}
theorem HasAt.mut (h : HasAt K F H p d) : Mut (H p) := by
  unfold HasAt at h
  split at h
  · obtain ⟨xs, e, _⟩ := h
    rw [e]
    trivial
  · obtain ⟨xs, e, _⟩ := h
    rw [e]
    trivial
  · exact h.elim
theorem HasAt.step (h : HasAt K F H p d) (s : Sub F F') (e : H' p = H p) : HasAt K F' H' p d := by
  unfold HasAt at h ⊢
  split at h
  · obtain ⟨xs, q, r⟩ := h
    exact ⟨xs, e.trans q, r.mono s⟩
  · obtain ⟨xs, q, r⟩ := h
    exact ⟨xs, e.trans q, r.mono s⟩
  · exact h.elim
theorem HasAt.some (h : HasAt K F H p d) : ∃ o, H p = Option.some o ∧ Mut (Option.some o) := by
  unfold HasAt at h
  split at h
  · obtain ⟨xs, q, r⟩ := h
    exact ⟨_, q, trivial⟩
  · obtain ⟨xs, q, r⟩ := h
    exact ⟨_, q, trivial⟩
  · exact h.elim
theorem HasAt.hasRd (h : HasAt K F H p d) : HasRd K F H p d := by
  unfold HasAt at h
  unfold HasRd
  split at h
  · obtain ⟨xs, q, r⟩ := h
    exact ⟨xs, .inl q, r⟩
  · obtain ⟨xs, q, r⟩ := h
    exact ⟨xs, .inl q, r⟩
  · exact h.elim
theorem HasRd.mono (h : HasRd K F H p d) (s : Sub F F') (k : Sub H H') : HasRd K F' H' p d := by
  unfold HasRd at h ⊢
  split at h
  · obtain ⟨xs, q, r⟩ := h
    exact ⟨xs, k.rd q, r.mono s⟩
  · obtain ⟨xs, q, r⟩ := h
    exact ⟨xs, k.rd q, r.mono s⟩
  · exact h.elim
theorem HasRd.rep (h : HasRd K F H p d) (s : Sub F H) : Rep K H (.ref p) d := by
  unfold HasRd at h
  split at h
  · obtain ⟨xs, q, r⟩ := h
    exact .lst q (r.mono s)
  · obtain ⟨xs, q, r⟩ := h
    exact .dN q (r.mono s)
  · exact h.elim
theorem Fin.sub (x : Fin T F H) : Sub T.H0 H := fun a o h => by
  rcases x.keep a o h with e | ⟨_, m, od, e⟩
  · exact ⟨o, e, .inl rfl⟩
  · exact ⟨_, e, .inr ⟨m, od, rfl⟩⟩
theorem Fin.exact {o : HO} (y : Fin ⟨H, F⟩ F' H') (f : F p = none) (h : H p = some o) : H' p = some o := by
  rcases y.keep p o h with e | ⟨n, _⟩
  · exact e
  · exact absurd f n
theorem HasAt.trans (h : HasAt K F H p d) (f : F p = none) (y : Fin ⟨H, F⟩ F' H') : HasAt K F' H' p d := by
  obtain ⟨o, e, _⟩ := h.some
  exact h.step y.base ((y.exact f e).trans e.symm)
/-- it stands in any heap that holds it -/
theorem HasAt.rep (h : HasAt K F H p d) (s : Sub F F') (e : F' p = H p) : Rep K F' (.ref p) d := by
  unfold HasAt at h
  split at h
  · obtain ⟨xs, q, r⟩ := h
    exact .lst (.inl (e.trans q)) (r.mono s)
  · obtain ⟨xs, q, r⟩ := h
    exact .dN (.inl (e.trans q)) (r.mono s)
  · exact h.elim
theorem Fin.refl (x : Fin T F H) : Fin ⟨H, F⟩ F H := ⟨fun _ _ h => .inl h, Sub.refl _, fun _ _ h => h, x.fh⟩
theorem Fin.start (H F : Hp) (s : Sub F H) : Fin ⟨H, F⟩ F H := ⟨fun _ _ h => .inl h, Sub.refl _, fun _ _ h => h, s⟩
/-- behind a step that kept what stood -/
theorem Fin.trans (x : Fin T F H) (y : Fin ⟨H, F⟩ F' H') : Fin T F' H' where
  keep := fun a o h => by
    have mH : Mut (some o) → T.F0 a = none → F a = none := fun m n => x.old a (by rw [h]; exact m) n
    rcases x.keep a o h with e | ⟨n, m, od, e⟩
    · rcases y.keep a o e with e2 | ⟨n2, m2, od, e2⟩
      · exact .inl e2
      · exact .inr ⟨fun z => n2 (mH m2 z), m2, od, e2⟩
    · rcases y.keep a _ e with e2 | ⟨_, m2, _⟩
      · exact .inr ⟨n, m, od, e2⟩
      · exact m2.elim
  base := x.base.trans y.base
  old := fun a m n => by
    cases q : T.H0 a with
    | none =>
      rw [q] at m
      exact m.elim
    | some o =>
      rw [q] at m
      rcases x.keep a o q with e | ⟨n', _⟩
      · exact y.old a (show Mut (H a) by rw [e]; exact m) (x.old a (by rw [q]; exact m) n)
      · exact absurd n n'
  fh := y.fh
theorem Ours.step (o : Ours T F p) (m : Mut (H p)) (y : Fin ⟨H, F⟩ F' H') : Ours T F' p := ⟨y.old p m o.f, o.h0⟩
theorem Rel.trans (x : Rel K T F H ρ σ) (y : Fin ⟨H, F⟩ F' H') : Rel K T F' H' ρ σ where
  fin := x.fin.trans y
  len := x.len
  im := fun i d e => by
    obtain ⟨v, h1, h2⟩ := x.im i d e
    exact ⟨v, h1, h2.mono y.base⟩
  own := fun i d e => by
    obtain ⟨p, h1, h2, h3⟩ := x.own i d e
    exact ⟨p, h1, h2.step h3.mut y, h3.trans h2.f y⟩
  inj := x.inj
theorem SrcOk.trans {s : Src} (h : SrcOk K T F H ρ σ v d s) (y : Fin ⟨H, F⟩ F' H') : SrcOk K T F' H' ρ σ v d s := by
  cases s with
  | im => exact Rep.mono y.base h
  | fr =>
    obtain ⟨p, e, o, a, l⟩ := h
    exact ⟨p, e, o.step a.mut y, a.trans o.f y, l⟩
  | sl i => exact h
theorem Top.grow (h : Top K F H v d) (s : Sub F F') (k : Sub H H') : Top K F' H' v d := by
  cases h with
  | im r => exact .im (r.mono s)
  | at_ a => exact .at_ (a.mono s k)
theorem Top.trans (h : Top K F H v d) (y : Fin ⟨H, F⟩ F' H') : Top K F' H' v d := h.grow y.base y.sub
theorem SrcOk.top {s : Src} (h : SrcOk K T F H ρ σ v d s) (x : Rel K T F H ρ σ) : Top K F H v d := by
  cases s with
  | im => exact .im h
  | fr =>
    obtain ⟨p, e, o, a, l⟩ := h
    subst e
    exact .at_ a.hasRd
  | sl i =>
    obtain ⟨h1, h2⟩ := h
    obtain ⟨p, e, _, a⟩ := x.own i d h2
    rw [e] at h1
    cases h1
    exact .at_ a.hasRd
/-- read as a whole, by the heap -/
theorem Top.rep (h : Top K F H v d) (s : Sub F H) : Rep K H v d := by
  cases h with
  | im r => exact r.mono s
  | at_ a => exact a.rep s
theorem Top.list {ds : List D} (h : Top K F H v (.list ds)) (s : Sub F H) : ∃ a xs, v = .ref a ∧ Rd H a (.lst xs) ∧ RepL K F xs ds := by
  cases h with
  | im r =>
    cases r with
    | lst h r => exact ⟨_, _, rfl, s.rd h, r⟩
  | at_ a =>
    obtain ⟨xs, q, r⟩ := a
    exact ⟨_, xs, rfl, q, r⟩
theorem Top.tup {ds : List D} (h : Top K F H v (.tuple ds)) (s : Sub F H) : ∃ a xs, v = .ref a ∧ SqT K.1 F a xs ∧ RepL K F xs ds := by
  cases h with
  | im r =>
    cases r with
    | tup h r => exact ⟨_, _, rfl, h, r⟩
  | at_ a => exact a.elim
theorem Top.dict {ds : List (D × D)} (h : Top K F H v (.dict ds)) (s : Sub F H) : ∃ a kvs, v = .ref a ∧ Rd H a (dN K.2 a kvs) ∧ RepM K F kvs ds := by
  cases h with
  | im r =>
    cases r with
    | dN h r => exact ⟨_, _, rfl, s.rd h, r⟩
  | at_ a =>
    obtain ⟨xs, q, r⟩ := a
    exact ⟨_, xs, rfl, q, r⟩
theorem Top.int {i : Int} (h : Top K F H v (.int i)) : v = .int i := by
  cases h with
  | im r =>
    cases r
    rfl
  | at_ a => exact a.elim
theorem Top.bool {i : Bool} (h : Top K F H v (.bool i)) : v = .bl i := by
  cases h with
  | im r =>
    cases r
    rfl
  | at_ a => exact a.elim
theorem Top.str {i : Str} (h : Top K F H v (.str i)) : v = .str i := by
  cases h with
  | im r =>
    cases r
    rfl
  | at_ a => exact a.elim
theorem Top.non (h : Top K F H v .none) : v = .non := by
  cases h with
  | im r =>
    cases r
    rfl
  | at_ a => exact a.elim
/-- only None is None -/
theorem Top.isN (h : Top K F H v d) : decide (v = .non) = isNone d := by
  cases h with
  | im r => cases r <;> rfl
  | at_ a =>
    unfold HasRd at a
    split at a
    · rfl
    · rfl
    · exact a.elim

/-! ### new objects -/
theorem upd_keep {o : HO} (n : H p = none) : ∀ a u, H a = some u → upd H p o a = some u := fun a u e => by
  rw [upd_ne (ne_of_none e n)]
  exact e
theorem upd_sub {o : HO} (n : H p = none) : Sub H (upd H p o) := Sub.of_eq (upd_keep n)
/-- a new object that stays ours -/
theorem Fin.new {o : HO} (s : Sub F H) (n : H p = none) : Fin ⟨H, F⟩ F (upd H p o) := ⟨fun a u e => .inl (upd_keep n a u e), Sub.refl _, fun _ _ h => h, s.trans (upd_sub n)⟩
theorem f_none (s : Sub F H) (n : H p = none) : F p = none := by
  cases q : F p with
  | none => rfl
  | some o =>
    obtain ⟨o', e, _⟩ := s p o q
    rw [e] at n
    cases n
/-- a new object that stands for good -/
theorem Fin.newF {o : HO} (s : Sub F H) (n : H p = none) : Fin ⟨H, F⟩ (upd F p o) (upd H p o) where
  keep := fun a u e => .inl (upd_keep n a u e)
  base := upd_sub (f_none s n)
  old := fun a m h => by
    have ne : a ≠ p := fun e => by
      subst e
      have m' : Mut (H a) := m
      rw [n] at m'
      exact m'
    rw [upd_ne ne]
    exact h
  fh := fun a u e => by
    by_cases h : a = p
    · subst h
      rw [upd_same] at e ⊢
      exact ⟨_, e, .inl rfl⟩
    · rw [upd_ne h] at e ⊢
      exact s a u e
/-- a new address is no slot's own -/
theorem Rel.loose (x : Rel K T F H ρ σ) (n : H p = none) : Loose ρ σ p := fun i d e h => by
  obtain ⟨q, h1, _, h3⟩ := x.own i d e
  rw [h1] at h
  cases h
  have m := h3.mut
  rw [n] at m
  exact m
theorem Rel.ours (x : Rel K T F H ρ σ) (n : H p = none) : Ours T F p := ⟨f_none x.fin.fh n, f_none x.fin.sub n⟩

/-! ### for good -/
theorem set_frz (ρ : Rho) (i : Nat) : ∀ (j : Nat) (d : D), (ρ.set i (frzS (ρ.getD i .un)))[j]? = some (.own d) → ρ[j]? = some (.own d) ∧ j ≠ i := fun j d e => by
  by_cases h : i = j
  · subst h
    rw [List.getElem?_set] at e
    simp only [if_true] at e
    split at e
    · have z : frzS (ρ.getD i .un) = .own d := Option.some.inj e
      unfold frzS at z
      split at z <;> cases z
    · cases e
  · rw [List.getElem?_set_ne h] at e
    exact ⟨e, fun z => h z.symm⟩
/-- an object of ours stands for good from now on -/
theorem Fin.frz (x : Fin T F H) (o : Ours T F p) (m : Mut (H p)) : Fin T (upd F p ((H p).getD (.lst []))) H where
  keep := x.keep
  base := x.base.trans (upd_sub o.f)
  old := fun a ma n => by
    have ne : a ≠ p := fun e => by
      subst e
      rw [o.h0] at ma
      exact ma
    rw [upd_ne ne]
    exact x.old a ma n
  fh := fun a u e => by
    by_cases h : a = p
    · subst h
      rw [upd_same] at e
      cases q : H a with
      | none =>
        rw [q] at m
        exact m.elim
      | some w =>
        rw [q] at e
        exact ⟨_, e, .inl rfl⟩
    · rw [upd_ne h] at e
      exact x.fh a u e
theorem HasAt.repF (h : HasAt K F H p d) (n : F p = none) : Rep K (upd F p ((H p).getD (.lst []))) (.ref p) d := by
  refine h.rep (upd_sub n) ?_
  rw [upd_same]
  have m := h.mut
  cases q : H p with
  | none =>
    rw [q] at m
    exact m.elim
  | some w => rfl
/-- a value is handed on for good -/
theorem Rel.frz {s : Src} (x : Rel K T F H ρ σ) (h : SrcOk K T F H ρ σ v d s) : ∃ F', Sub F F' ∧ Rel K T F' H (frz s ρ) σ ∧ Rep K F' v d := by
  cases s with
  | im => exact ⟨F, Sub.refl _, x, h⟩
  | fr =>
    obtain ⟨p, e, o, a, l⟩ := h
    subst e
    refine ⟨_, upd_sub o.f, ⟨x.fin.frz o a.mut, x.len, fun i d e => ?_, fun i d e => ?_, x.inj⟩, a.repF o.f⟩
    · obtain ⟨v, h1, h2⟩ := x.im i d e
      exact ⟨v, h1, h2.mono (upd_sub o.f)⟩
    · obtain ⟨q, h1, h2, h3⟩ := x.own i d e
      have ne : q ≠ p := fun z => l i d e (z ▸ h1)
      exact ⟨q, h1, ⟨by rw [upd_ne ne]; exact h2.f, h2.h0⟩, h3.step (upd_sub o.f) rfl⟩
  | sl i =>
    obtain ⟨h1, h2⟩ := h
    obtain ⟨p, e, o, a⟩ := x.own i d h2
    rw [e] at h1
    cases h1
    have hi : i < ρ.length := (List.getElem?_eq_some_iff.mp h2).1
    have hg : ρ.getD i .un = .own d := by rw [List.getD_eq_getElem?_getD, h2]; rfl
    refine ⟨_, upd_sub o.f, ⟨x.fin.frz o a.mut, ?_, fun j d' e' => ?_, fun j d' e' => ?_, fun j k d1 d2 q e1 e2 s1 s2 => ?_⟩, a.repF o.f⟩
    · show σ.length = (ρ.set i _).length
      rw [List.length_set]
      exact x.len
    · by_cases hj : i = j
      · subst hj
        have e2 : (ρ.set i (frzS (ρ.getD i .un)))[i]? = some (.im d') := e'
        rw [List.getElem?_set_self hi, hg] at e2
        have z : Slot.im d = Slot.im d' := Option.some.inj e2
        cases z
        exact ⟨_, e, a.repF o.f⟩
      · have e2 : (ρ.set i (frzS (ρ.getD i .un)))[j]? = some (.im d') := e'
        rw [List.getElem?_set_ne hj] at e2
        obtain ⟨v, h1, h2⟩ := x.im j d' e2
        exact ⟨v, h1, h2.mono (upd_sub o.f)⟩
    · obtain ⟨e2, ne⟩ := set_frz ρ i j d' e'
      obtain ⟨q, h1, h3, h4⟩ := x.own j d' e2
      have nq : q ≠ p := fun z => ne (x.inj j i d' d p e2 h2 (z ▸ h1) e)
      exact ⟨q, h1, ⟨by rw [upd_ne nq]; exact h3.f, h3.h0⟩, h4.step (upd_sub o.f) rfl⟩
    · exact x.inj j k d1 d2 q (set_frz ρ i j d1 e1).1 (set_frz ρ i k d2 e2).1 s1 s2

/-! ### slots stored -/
theorem Rel.setIm (x : Rel K T F H ρ σ) (i : Nat) (r : Rep K F v d) : Rel K T F H (ρ.set i (.im d)) (σ.set i (some v)) where
  fin := x.fin
  len := by rw [List.length_set, List.length_set]; exact x.len
  im := fun j e h => by
    by_cases hj : i = j
    · subst hj
      have hi : i < ρ.length := by
        have z := (List.getElem?_eq_some_iff.mp h).1
        rw [List.length_set] at z
        exact z
      rw [List.getElem?_set_self hi] at h
      have z : Slot.im d = Slot.im e := Option.some.inj h
      cases z
      exact ⟨v, List.getElem?_set_self (by rw [x.len]; exact hi), r⟩
    · rw [List.getElem?_set_ne hj] at h ⊢
      exact x.im j e h
  own := fun j e h => by
    by_cases hj : i = j
    · subst hj
      rw [List.getElem?_set] at h
      simp only [if_true] at h
      split at h
      · cases h
      · cases h
    · rw [List.getElem?_set_ne hj] at h ⊢
      exact x.own j e h
  inj := fun j k d1 d2 q e1 e2 s1 s2 => by
    by_cases hj : i = j
    · subst hj
      rw [List.getElem?_set] at e1
      simp only [if_true] at e1
      split at e1
      · cases e1
      · cases e1
    · by_cases hk : i = k
      · subst hk
        rw [List.getElem?_set] at e2
        simp only [if_true] at e2
        split at e2
        · cases e2
        · cases e2
      · rw [List.getElem?_set_ne hj] at e1 s1
        rw [List.getElem?_set_ne hk] at e2 s2
        exact x.inj j k d1 d2 q e1 e2 s1 s2
theorem Rel.setOwn (x : Rel K T F H ρ σ) (i : Nat) (o : Ours T F p) (a : HasAt K F H p d) (l : Loose ρ σ p) : Rel K T F H (ρ.set i (.own d)) (σ.set i (some (.ref p))) where
  fin := x.fin
  len := by rw [List.length_set, List.length_set]; exact x.len
  im := fun j e h => by
    by_cases hj : i = j
    · subst hj
      rw [List.getElem?_set] at h
      simp only [if_true] at h
      split at h
      · cases h
      · cases h
    · rw [List.getElem?_set_ne hj] at h ⊢
      exact x.im j e h
  own := fun j e h => by
    by_cases hj : i = j
    · subst hj
      have hi : i < ρ.length := by
        have z := (List.getElem?_eq_some_iff.mp h).1
        rw [List.length_set] at z
        exact z
      rw [List.getElem?_set_self hi] at h
      have z : Slot.own d = Slot.own e := Option.some.inj h
      cases z
      exact ⟨p, List.getElem?_set_self (by rw [x.len]; exact hi), o, a⟩
    · rw [List.getElem?_set_ne hj] at h ⊢
      exact x.own j e h
  inj := fun j k d1 d2 q e1 e2 s1 s2 => by
    by_cases hj : i = j
    · by_cases hk : i = k
      · exact hj.symm.trans hk
      · subst hj
        rw [List.getElem?_set_ne hk] at e2 s2
        have hi : i < σ.length := by
          have z := (List.getElem?_eq_some_iff.mp s1).1
          rw [List.length_set] at z
          exact z
        rw [List.getElem?_set_self hi] at s1
        cases s1
        exact absurd s2 (l k d2 e2)
    · by_cases hk : i = k
      · subst hk
        rw [List.getElem?_set_ne hj] at e1 s1
        have hi : i < σ.length := by
          have z := (List.getElem?_eq_some_iff.mp s2).1
          rw [List.length_set] at z
          exact z
        rw [List.getElem?_set_self hi] at s2
        cases s2
        exact absurd s1 (l j d1 e1)
      · rw [List.getElem?_set_ne hj] at e1 s1
        rw [List.getElem?_set_ne hk] at e2 s2
        exact x.inj j k d1 d2 q e1 e2 s1 s2
/-- a value is stored -/
theorem Rel.store {s : Src} (x : Rel K T F H ρ σ) (i : Nat) (h : SrcOk K T F H ρ σ v d s) : ∃ F', Sub F F' ∧ Rel K T F' H ((Pe.frz s ρ).set i (putS s d)) (σ.set i (some v)) := by
  cases s with
  | im => exact ⟨F, Sub.refl _, x.setIm i h⟩
  | fr =>
    obtain ⟨p, e, o, a, l⟩ := h
    subst e
    exact ⟨F, Sub.refl _, x.setOwn i o a l⟩
  | sl j =>
    obtain ⟨F', s1, x1, r⟩ := x.frz h
    exact ⟨F', s1, x1.setIm i r⟩
/-- what a slot owns is changed -/
theorem Rel.change (x : Rel K T F H ρ σ) {i : Nat} {e : D} (h : ρ[i]? = some (.own e)) (hp : σ[i]? = some (some (.ref p))) {o : HO} (hm : Mut (some o)) (a : HasAt K F (upd H p o) p d) : Rel K T F (upd H p o) (ρ.set i (.own d)) σ := by
  obtain ⟨p', e1, o1, a1⟩ := x.own i e h
  rw [hp] at e1
  cases e1
  have hi : i < ρ.length := (List.getElem?_eq_some_iff.mp h).1
  refine ⟨⟨fun b u q => ?_, x.fin.base, x.fin.old, fun b u q => ?_⟩, by rw [List.length_set]; exact x.len, fun j e h' => ?_, fun j e' h' => ?_, fun j k d1 d2 q e1 e2 s1 s2 => ?_⟩
  · have ne : b ≠ p := fun z => by
      subst z
      rw [o1.h0] at q
      cases q
    rw [upd_ne ne]
    exact x.fin.keep b u q
  · have ne : b ≠ p := fun z => by
      subst z
      rw [o1.f] at q
      cases q
    rw [upd_ne ne]
    exact x.fin.fh b u q
  · by_cases hj : i = j
    · subst hj
      rw [List.getElem?_set_self hi] at h'
      cases h'
    · rw [List.getElem?_set_ne hj] at h'
      exact x.im j e h'
  · by_cases hj : i = j
    · subst hj
      rw [List.getElem?_set_self hi] at h'
      have z : Slot.own d = Slot.own e' := Option.some.inj h'
      cases z
      exact ⟨p, hp, o1, a⟩
    · rw [List.getElem?_set_ne hj] at h'
      obtain ⟨q, s1, o2, a2⟩ := x.own j e' h'
      have ne : q ≠ p := fun z => hj (x.inj i j e e' p h h' hp (z ▸ s1))
      exact ⟨q, s1, o2, a2.step (Sub.refl _) (by rw [upd_ne ne])⟩
  · by_cases hj : i = j
    · by_cases hk : i = k
      · exact hj.symm.trans hk
      · subst hj
        rw [List.getElem?_set_ne hk] at e2
        exact x.inj i k e d2 q h e2 s1 s2
    · by_cases hk : i = k
      · subst hk
        rw [List.getElem?_set_ne hj] at e1
        exact x.inj j i d1 e q e1 h s1 s2
      · rw [List.getElem?_set_ne hj] at e1
        rw [List.getElem?_set_ne hk] at e2
        exact x.inj j k d1 d2 q e1 e2 s1 s2
end
end Pe
end

section
set_option maxRecDepth 100000
/-! Pe4: more operators over the layer: lists as they are read, tuples joined and cut, what is in them, sorted tuples. -/
namespace Pe
open PySem PySem.Spec PyProof.Rows L2

section
variable {X : Cx} {pins : List (Addr × Obj)} {σ : L2.St} {H : Hp} {s : Shared} {l : Addr} {xs ys : List V}
theorem lstR (I : Inv X pins σ H s) (hH : Rd H l (.lst xs)) : xs.length ≤ sizeLine ∧ ∃ (its : List Value) (n : Nat), Vals xs its ∧ xs.length = its.length ∧ s.heap.get? l = some { cls := .type "list", data := .seq its.toArray n } := by
  obtain ⟨z, its, n, r, e⟩ := hH.ok I.hok
  exact ⟨z, its, n, r, r.length, e⟩

/-! ### lists joined, repeated -/
def rCatR : R2 := fun x y H Q => ∃ l b xs zs, x = .ref l ∧ y = .ref b ∧ Rd H l (.lst xs) ∧ Rd H b (.lst zs) ∧ xs.length + zs.length ≤ sizeLine ∧ ∀ p, H p = none → Q (.ref p) (upd H p (.lst (xs ++ zs)))
theorem op_catR : OpR X (binaryOp .Add) rCatR := by
  intro pins s σ H x y v u Q I rx ry h
  obtain ⟨l, b, xs, zs, rfl, rfl, hH, hB, hz, q⟩ := h
  cases rx
  cases ry
  obtain ⟨z, its, n, r, hl, e⟩ := lstR I hH
  obtain ⟨z2, its2, n2, r2, hl2, e2⟩ := lstR I hB
  refine PySem.P.add_list e e2 ?_ (by rw [List.size_toArray, List.size_toArray]; omega)
  have ea : its.toArray ++ its2.toArray = (its ++ its2).toArray := by simp
  rw [ea]
  exact ⟨.ref _, _, I.lnew (t' := s.toks) (r.append r2) (by rw [List.length_append]; omega), rfl, q _ I.fresh⟩
def rRepR : R2 := fun x y H Q => ∃ l k xs, x = .ref l ∧ y = .int k ∧ Rd H l (.lst xs) ∧ -(2 ^ 63) ≤ k ∧ k < 2 ^ 63 ∧ xs.length * k.toNat ≤ sizeLine ∧
  ∀ p, H p = none → Q (.ref p) (upd H p (.lst (List.replicate k.toNat xs).flatten))
theorem op_repR : OpR X (binaryOp .Mult) rRepR := by
  intro pins s σ H x y v u Q I rx ry h
  obtain ⟨l, k, xs, rfl, rfl, hH, h1, h2, hz, q⟩ := h
  cases rx
  obtain ⟨t, rfl⟩ := ry
  obtain ⟨z, its, n, r, hl, e⟩ := lstR I hH
  have hlen : its.toArray.size * k.toNat ≤ sizeLine := by rw [List.size_toArray, ← hl]; exact hz
  have hcap : ¬ its.toArray.size * k.toNat > (2 ^ 63 - 1) / 8 := by
    have : (sizeLine : Nat) ≤ (2 ^ 63 - 1) / 8 := by decide
    omega
  have hfit : ¬ (!Builtin.List.listFitsIndex k) = true := by
    rw [fitsIndex_both h1 h2]
    exact Bool.false_ne_true
  have hlong : ¬ Builtin.List.listTooLong (its.toArray.size * k.toNat) = true := by
    rw [notLongL hlen]
    exact Bool.false_ne_true
  have hnew : List.foldl (fun x1 x2 => x1 ++ x2) #[] (List.replicate (if its.toArray.isEmpty = true then 0 else k.toNat) its.toArray) = (List.replicate k.toNat its).flatten.toArray := by
    have f0 : ∀ m : Nat, List.foldl (fun x1 x2 => x1 ++ x2) #[] (List.replicate m its.toArray) = (List.replicate m its).flatten.toArray := fun m => by
      have := foldl_rep its m []
      rw [List.nil_append] at this
      exact this
    rw [f0]
    cases its with
    | nil => simp
    | cons a r' => rw [if_neg (by simp)]
  refine wpAny_binaryOp_repeat_ref (T := "list") (U := "int") (by decide) ⟨_, e, rfl⟩ (fun s' => typeIs_int s' k t) noFill_list_mul F.fills_int_mul F.slot_int_rmul repeat_list F.slot_int_index.lookup
    (call_meets F.slot_int_rmul (typeIs_int s k t) F.entry_int_rmul (F.args_int_rmul_2 _ _) (int___rmul___int_list k t l its.toArray n)
      ⟨e, rfl, ⟨_, e, rfl⟩, call_meets F.slot_list_mul ⟨_, e, rfl⟩ F.entry_list_mul (F.args_list_mul_2 _ _) (AutoListH.list___mul___list_int_3 l its.toArray n k t hfit hcap hlong) ⟨e, ?_⟩⟩)
  rw [hnew]
  exact ⟨.ref _, _, I.lnew (t' := s.toks) (r.rep k.toNat) (by rw [PyProof.Rows.lm_len_rep_flat, Nat.mul_comm]; exact hz), rfl, q _ I.fresh⟩
def rExtendR : V → List V → Hp → VK → Prop := fun x vs H Q => ∃ l b xs zs, x = .ref l ∧ vs = [.ref b] ∧ H l = some (.lst xs) ∧ Rd H b (.lst zs) ∧ xs.length + zs.length ≤ sizeLine ∧ Q .non (upd H l (.lst (xs ++ zs)))
theorem mt_extendR : MtM X "list.extend" rExtendR := by
  intro pins s σ H x vs v us Q I rx rv h
  obtain ⟨l, b, xs, zs, rfl, rfl, hH, hB, hz, q⟩ := h
  cases rx
  obtain ⟨u, rfl, ru⟩ := rv.one
  cases ru
  obtain ⟨z, its, n, r, hl, e⟩ := I.lstM hH
  obtain ⟨z2, its2, n2, r2, hl2, e2⟩ := lstR I hB
  have hsz : its.toArray.size + its2.toArray.size ≤ sizeLine := by rw [List.size_toArray, List.size_toArray]; omega
  have hlong : ¬ (!its.toArray.isEmpty && Builtin.List.listTooLong (its.toArray.size + its2.toArray.size)) = true := by
    rw [notLongL hsz, Bool.and_false]
    exact Bool.false_ne_true
  refine call_meets F.slot_list_extend ⟨_, e, rfl⟩ F.entry_list_extend (F.args_list_extend_2 _ _)
    (AutoSeq1.list_extend_list_list_0 l its.toArray n b its2.toArray n2 hlong (by rw [List.size_toArray]; omega) (by omega)) ⟨e, e2, ?_⟩
  refine ⟨.non, _, I.lset (its' := its ++ its2) hH e (by simp) (r.append r2) ?_, rfl, q⟩
  rw [List.length_append]
  omega

/-! ### tuples joined: the one or the other itself, or a new one -/
def rCatN (K : PySem.W.Frag) : R2 := fun x y H Q => ∃ a b xs ys, x = .ref a ∧ y = .ref b ∧ SqT K H a xs ∧ SqT K H b ys ∧ xs.length + ys.length ≤ sizeLine ∧
  (xs = [] → Q (.ref b) H) ∧ (ys = [] → Q (.ref a) H) ∧ (∀ p, H p = none → Q (.ref p) (upd H p (.tup (xs ++ ys))))
theorem op_catN : OpR X (binaryOp .Add) (rCatN X.K) := by
  intro pins s σ H x y v u Q I rx ry h
  obtain ⟨a, b, xs, ys, rfl, rfl, ha, hb, hz, q0, q1, q2⟩ := h
  by_cases hx : xs = []
  · cases rx
    cases ry
    obtain ⟨its, r1, p1, _⟩ := I.tuple ha
    obtain ⟨its2, r2, p2, _⟩ := I.tuple hb
    obtain ⟨⟨cls, dd, data, sl⟩, ho, hc, n, hd⟩ := id p1
    obtain ⟨⟨cls2, dd2, data2, sl2⟩, ho2, hc2, n2, hd2⟩ := id p2
    simp only at hc hd hc2 hd2
    subst hc hd hc2 hd2
    exact concat_meets ⟨_, ho, rfl⟩ ⟨_, ho2, rfl⟩ noFill_tuple_add seq_tuple_add PySem.F.slot_tuple_add PySem.F.entry_tuple_add (PySem.F.args_tuple_add_2 _ _)
      (tuple_addW0 a b its.toArray its2.toArray n n2 dd dd2 sl sl2 (by simp [r1.nil_iff.mpr hx])) ⟨ho, ho2, ⟨.ref b, H, I, rfl, q0 hx⟩⟩
  · exact op_catT pins s σ H _ _ _ _ Q I rx ry ⟨a, b, xs, ys, rfl, rfl, ha, hb, hx, hz, q1, fun _ => q2⟩

/-! ### t[lo:hi] -/
def rSlN (K : PySem.W.Frag) : V → Option Int → Option Int → Hp → VK → Prop := fun x lo hi H Q => ∃ a xs, x = .ref a ∧ SqT K H a xs ∧
  (cutV xs lo hi = xs → Q (.ref a) H) ∧ ∀ p, H p = none → Q (.ref p) (upd H p (.tup (cutV xs lo hi)))
theorem getItem_tuple_whole {prog : Program} {w : World} {A : Around} {E : Value → Shared → Prop} {t sl : Addr} {items : Array Value} {vl vu : Value} {lo hi : Option Int} {Q : Value → Shared → Prop} (ht : IsTup s.heap t items) (hs : s.heap.IsSliceOf sl vl vu .none) (pl : IsPart vl lo) (pu : IsPart vu hi)
    (hw : HT.sIx items.size 0 lo = 0 ∧ HT.sIx items.size items.size hi = items.size)
    (h : Q (.ref t) s) : wpAny (model prog w) A (getItem (.ref t) (.ref sl)) Q E s := by
  obtain ⟨os, hos, hcs, hds⟩ := id hs
  have hTs : s.TypeIs (.ref sl) "slice" := ⟨os, hos, hcs⟩
  unfold getItem
  try with_reducible refine wpAny_holding ?_
  first | refine wpAny_bind (wpAny_pure ?_) | skip
  refine wpAny_bind (wpAny_sequenceKey ht.typeIs (by decide) ?_)
  refine wpAny_bind (wpAny_callSpecial?_slot (name := Str.ofString "__getitem__") ht.typeIs PyProof.Rows.slot_tuple_getitem
    (wpAny_call_entry PyProof.Rows.slot_tuple_getitem ht.typeIs entry_tuple_getitem ?_ (args_tuple_getitem _ _)))
  show wpAny _ _ (Builtin.Tuple.tupleItemsOf (.ref t) >>= _) _ _ s
  refine wpAny_bind (tupleItemsOf_ ht ?_)
  refine wpAny_bind (wpAny_typeOf hTs ?_)
  rw [if_pos (by decide)]
  refine wpAny_bind (HT.sliceApplied_gen hs pl pu ?_)
  have hyes : (((HT.sIx items.size 0 lo : Nat) : Int) == 0 && (1 : Int) == 1 && (HT.sIx items.size items.size hi - HT.sIx items.size 0 lo) == items.size) = true := by
    rw [hw.1, hw.2]
    simp
  show wpAny _ _ (if (((HT.sIx items.size 0 lo : Nat) : Int) == 0 && (1 : Int) == 1 && (HT.sIx items.size items.size hi - HT.sIx items.size 0 lo) == items.size) = true then _ else _) _ _ s
  rw [if_pos hyes]
  refine wpAny_bind (m := Builtin.Tuple.tupleIsExact (.ref t)) (wpAny_bind (wpAny_typeOf ht.typeIs (wpAny_pure ?_)))
  rw [if_pos (by decide)]
  first
    | exact wpAny_bind (wpAny_rule (wpAny_pure ⟨_, rfl, wpAny_pure h⟩))
    | exact wpAny_bind (wpAny_rule (wpAny_bind (wpAny_pure (wpAny_pure ⟨_, rfl, wpAny_pure h⟩))))
theorem cutV_whole {xs : List V} {lo hi : Option Int} (h : HT.sIx xs.length 0 lo = 0 ∧ HT.sIx xs.length xs.length hi = xs.length) : cutV xs lo hi = xs := by
  unfold cutV
  rw [h.1, h.2, List.drop_zero, Nat.sub_zero, List.take_length]
theorem sl_tupN : SlR X (rSlN X.K) := by
  intro pins s σ H x v vl vu lo hi sl Q I rx hs pl pu h
  obtain ⟨a, xs, rfl, hx, q0, q⟩ := h
  by_cases hw : HT.sIx xs.length 0 lo = 0 ∧ HT.sIx xs.length xs.length hi = xs.length
  · cases rx
    obtain ⟨its, r, ht, hz⟩ := I.tuple hx
    have hlen : its.toArray.size = xs.length := by rw [List.size_toArray]; exact r.length.symm
    exact ⟨"tuple", _, PyProof.Rows.slot_tuple_getitem.lookup, ht.typeIs, getItem_tuple_whole ht hs pl pu (by rw [hlen]; exact hw) ⟨.ref a, H, I, rfl, q0 (cutV_whole hw)⟩⟩
  · exact sl_tup pins s σ H _ _ vl vu lo hi sl Q I rx hs pl pu ⟨a, xs, rfl, hx, hw, q⟩

/-! ### t[::-1] -/
theorem sliceApplied_rev {prog : Program} {w : World} {A : Around} {E : Value → Shared → Prop} {sl : Addr} {t : Tok} {n : Nat} {Q : Int × Int × Nat → Shared → Prop} {o : Obj} (hos : s.heap.get? sl = some o) (hds : o.data = .fields #[.none, .none, .int (-1) t])
    (h : Q ((n : Int) - 1, -1, n) s) : wpAny (model prog w) A (Builtin.Slice.sliceApplied (.ref sl) (pure (n : Int))) Q E s := by
  unfold Builtin.Slice.sliceApplied Builtin.Slice.sliceFields
  refine wpAny_bind (wpAny_bind (wpAny_field hos hds (x := .none) rfl (wpAny_bind (wpAny_field hos hds (x := .none) rfl (wpAny_bind (wpAny_field hos hds (x := .int (-1) t) rfl (wpAny_pure ?_)))))))
  refine wpAny_bind (slicePart_int ?_)
  show wpAny _ _ (if ((-1 : Int) == 0) = true then _ else _) _ _ s
  rw [if_neg (by decide)]
  refine wpAny_bind (slicePart_none (wpAny_bind (slicePart_none (wpAny_bind (wpAny_pure ?_)))))
  show wpAny _ _ (pure ((n : Int) - 1, (-1 : Int), Builtin.Slice.slicePlaces ((n : Int) - 1) (-1) (-1))) _ _ s
  have e : Builtin.Slice.slicePlaces ((n : Int) - 1) (-1) (-1) = n := by
    unfold Builtin.Slice.slicePlaces
    rw [if_neg (by decide)]
    split
    · have z : -(-1 : Int) = 1 := by decide
      rw [z, Int.ediv_one]
      omega
    · omega
  rw [e]
  exact wpAny_pure h
theorem fm_congr {α β : Type} {f g : α → Option β} : ∀ l : List α, (∀ x ∈ l, f x = g x) → l.filterMap f = l.filterMap g
  | [], _ => rfl
  | x :: l, h => by
    rw [List.filterMap_cons, List.filterMap_cons, h x List.mem_cons_self, fm_congr l fun y hy => h y (List.mem_cons_of_mem _ hy)]
theorem pick_rev (its : List Value) : ((List.range its.length).filterMap fun (m : Nat) => its.toArray[((its.length : Int) - 1 + (m : Int) * -1).toNat]?) = its.reverse := by
  apply List.ext_getElem?
  intro i
  have e : ∀ m, m < its.length → its.toArray[((its.length : Int) - 1 + (m : Int) * -1).toNat]? = its.reverse[m]? := fun m hm => by
    rw [List.getElem?_reverse hm]
    have z : ((its.length : Int) - 1 + (m : Int) * -1).toNat = its.length - 1 - m := by omega
    rw [z]
    simp
  have f : (List.range its.length).filterMap (fun (m : Nat) => its.toArray[((its.length : Int) - 1 + (m : Int) * -1).toNat]?) = (List.range its.length).filterMap (fun m => its.reverse[m]?) := by
    exact fm_congr _ fun m hm => e m (List.mem_range.mp hm)
  rw [f]
  have g : (List.range its.reverse.length).filterMap (fun m => its.reverse[m]?) = its.reverse := by
    generalize its.reverse = l
    induction l with
    | nil => rfl
    | cons x r ih =>
      rw [List.length_cons, List.range_succ_eq_map, List.filterMap_cons]
      simp only [List.getElem?_cons_zero]
      rw [List.filterMap_map]
      congr 1
  rw [List.length_reverse] at g
  rw [g]
theorem getItem_tuple_rev {prog : Program} {w : World} {A : Around} {E : Value → Shared → Prop} {t sl : Addr} {its : List Value} {tk : Tok} {o : Obj} {Q : Value → Shared → Prop} (ht : IsTup s.heap t its.toArray) (hos : s.heap.get? sl = some o) (hcs : o.cls = .type "slice") (hds : o.data = .fields #[.none, .none, .int (-1) tk])
    (h : Q (.ref s.heap.objs.size) { s with heap := s.heap.push { cls := .type "tuple", data := .seq its.reverse.toArray } }) (hsz : its.length ≤ sizeLine) : wpAny (model prog w) A (getItem (.ref t) (.ref sl)) Q E s := by
  have hTs : s.TypeIs (.ref sl) "slice" := ⟨o, hos, hcs⟩
  unfold getItem
  try with_reducible refine wpAny_holding ?_
  first | refine wpAny_bind (wpAny_pure ?_) | skip
  refine wpAny_bind (wpAny_sequenceKey ht.typeIs (by decide) ?_)
  refine wpAny_bind (wpAny_callSpecial?_slot (name := Str.ofString "__getitem__") ht.typeIs PyProof.Rows.slot_tuple_getitem
    (wpAny_call_entry PyProof.Rows.slot_tuple_getitem ht.typeIs entry_tuple_getitem ?_ (args_tuple_getitem _ _)))
  show wpAny _ _ (Builtin.Tuple.tupleItemsOf (.ref t) >>= _) _ _ s
  refine wpAny_bind (tupleItemsOf_ ht ?_)
  refine wpAny_bind (wpAny_typeOf hTs ?_)
  rw [if_pos (by decide)]
  rw [List.size_toArray]
  refine wpAny_bind (sliceApplied_rev hos hds ?_)
  show wpAny _ _ (if (((its.length : Int) - 1) == 0 && (-1 : Int) == 1 && its.length == its.toArray.size) = true then _ else _) _ _ s
  rw [if_neg (by simp), pick_rev]
  have htake : sizeOk (.seq its.reverse.toArray) := by
    show its.reverse.toArray.size ≤ sizeLine
    rw [List.size_toArray, List.length_reverse]
    exact hsz
  first
    | exact wpAny_bind (m := Builtin.Tuple.tupleExact _) (wpAny_newObj_type (wpAny_pure ⟨_, rfl, wpAny_pure h⟩) htake)
    | exact wpAny_bind (m := Builtin.Tuple.tupleExact _) (wpAny_newObj_type (wpAny_bind (wpAny_pure (wpAny_pure ⟨_, rfl, wpAny_pure h⟩))) htake)
/-- e[::-1], of a list or a tuple -/
def tRevN (K : PySem.W.Frag) (te : TE) : TE := fun σ H Q => te σ H fun x H1 => ∃ a xs, x = .ref a ∧ ((SqL K H1 a xs ∧ ∀ p, H1 p = none → Q (.ref p) (upd H1 p (.lst xs.reverse))) ∨ (SqT K H1 a xs ∧ ∀ p, H1 p = none → Q (.ref p) (upd H1 p (.tup xs.reverse))))
theorem pe_revN {e : Expr} {te : TE} {k : Nat} {p1 p2 p3 pos : Pos} (he : PE X e te) : PE X (.Subscript e (.Slice none none (some (.UnaryOp .USub (.Constant (.int 1) k p1) p2)) p3) pos) (tRevN X.K te) := by
  refine ⟨fun pins s σ H Q I h => ?_⟩
  refine Subscript_ (thn (he.run pins s σ H _ I h) fun v s1 ⟨x, H1, I1, r1, q1⟩ => ?_)
  obtain ⟨a, xs, ex, q⟩ := q1
  subst ex
  cases r1
  have hst : PO X (some (.UnaryOp .USub (.Constant (.int 1) k p1) p2)) (tPart (tUn (rU fun i => .int (-i)) (tC (.int 1)))) := po_some (pe_un un_neg pe_int)
  refine wpAny_Slice (thn (po_none.run pins s1 σ H1 (fun o H2 => o = none ∧ H2 = H1) I1 ⟨rfl, rfl⟩) fun vl s2 ⟨l, H2, I2, pl, el, e2⟩ => ?_)
  subst el e2
  refine thn (po_none.run pins s2 σ H2 (fun o H3 => o = none ∧ H3 = H2) I2 ⟨rfl, rfl⟩) fun vu s3 ⟨u, H3, I3, pu, eu, e3⟩ => ?_
  subst eu e3
  refine thn (hst.run pins s3 σ H3 (fun o H4 => o = some (-1) ∧ H4 = H3) I3 ⟨1, rfl, -1, rfl, rfl, rfl⟩) fun vs s4 ⟨o, H4, I4, ps, eo, e4⟩ => ?_
  subst eo e4
  have I5 : Inv X pins σ H4 { s4 with heap := s4.heap.push { cls := .type "slice", data := .fields #[vl, vu, vs] } } := I4.kept (t' := s4.toks) fun b ob q => Heap.get?_push_of_some _ q
  show wpAny (model X.prog X.w) X.A (subscriptTail e (.Slice none none (some (.UnaryOp .USub (.Constant (.int 1) k p1) p2)) p3) (.ref a) (.ref s4.heap.objs.size)) (EP X pins σ Q) X.xe { s4 with heap := s4.heap.push { cls := .type "slice", data := .fields #[vl, vu, vs] } }
  rcases q with ⟨hx, q⟩ | ⟨hx, q⟩
  · obtain ⟨its, r, ht, hz⟩ := I5.list hx
    have hlen := r.length
    refine tail_any (ops := [.ref a, .ref s4.heap.objs.size]) ht.isList.typeIs (PySem.slot_list_getitem.lookup) ?_ (by with_unfolding_all rfl)
    refine wpAny_getItem_list_slice ht.isList (Heap.IsSliceOf.new _ vl vu vs) pl pu ps (by decide) ?_ (by rw [List.size_toArray]; omega)
    rw [PySem.W.krv_pick]
    refine ⟨.ref _, _, I5.laid (t' := s4.toks) (o := .lst xs.reverse) (fun b ob q => Heap.get?_push_of_some _ q) (Nat.le_refl _) ?_, rfl, q _ (I5.hok.fresh (Nat.le_refl _))⟩
    exact ⟨by rw [List.length_reverse]; exact hz, _, 0, r.reverse, Heap.get?_push_size _ rfl⟩
  · obtain ⟨its, r, ht, hz⟩ := I5.tuple hx
    have hlen := r.length
    cases pl
    cases pu
    obtain ⟨tk, rfl⟩ : ∃ tk, vs = Value.int (-1) tk := by
      cases ps
      exact ⟨_, rfl⟩
    refine tail_any (ops := [.ref a, .ref s4.heap.objs.size]) ht.typeIs (PyProof.Rows.slot_tuple_getitem.lookup) ?_ (by with_unfolding_all rfl)
    refine getItem_tuple_rev ht (Heap.get?_push_size _ rfl) rfl rfl ?_ (by omega)
    refine ⟨.ref _, _, I5.laid (t' := s4.toks) (o := .tup xs.reverse) (fun b ob q => Heap.get?_push_of_some _ q) (Nat.le_refl _) ?_, rfl, q _ (I5.hok.fresh (Nat.le_refl _))⟩
    exact ⟨by rw [List.length_reverse]; exact hz, _, r.reverse, IsTup.new _ _⟩

/-! ### sorted(t), ints -/
theorem collect_tup {prog : Program} {w : World} {A : Around} {E : Value → Shared → Prop} {l : Addr} {vs : List Value} {Q : List Value → Shared → Prop} (hl : IsTup s.heap l vs.toArray)
    (h : Q vs { s with heap := (s.heap.push (seqObj "list" #[] 0)).update s.heap.objs.size (Obj.mapSeq (· ++ vs.toArray)) }) (hsz : vs.length ≤ sizeLine) :
    wpAny (model prog w) A (collect (.ref l)) Q E s := by
  obtain ⟨o, ho, hc, n, hd⟩ := id hl
  unfold collect
  refine wpAny_bind (wpAny_runValue (codeAny_builtin entry_proto_collect' ?_))
  show wpAny _ _ (do again (.builtin "list.__iadd__" ⟨[← newList [], .ref l], []⟩)) _ _ s
  refine wpAny_bind (wpAny_newList (wpAny_pure ⟨Code.quiet_builtin _ (by decide +kernel), codeAny_builtin entry_list_iadd' ?_⟩))
  show wpAny _ _ (Builtin.List.listExtendWith (.ref s.heap.objs.size) (.ref l) (.ref s.heap.objs.size)) _ _ { s with heap := s.heap.push (seqObj "list" #[] 0) }
  unfold Builtin.List.listExtendWith
  have ho' : (s.heap.push (seqObj "list" #[] 0)).get? l = some o := Heap.get?_push_of_some _ ho
  refine wpAny_bind (wpAny_typeOf (T := "tuple") ⟨o, ho', hc⟩ ?_)
  have ht : (Value.type "tuple" == Value.type "tuple") = true := by rfl
  rw [if_pos (by rw [ht]; simp)]
  refine wpAny_bind (listItems_at ho' hd ?_)
  refine wpAny_bind (listItems_at (xs := #[]) (n := 0) (Heap.get?_push_size _ rfl) rfl ?_)
  rw [if_neg (by simp)]
  refine wpAny_bind (listUpdate_at (xs := #[]) (n := 0) (Heap.get?_push_size _ rfl) rfl ?_ (Nat.zero_le _) (by show (#[] ++ vs.toArray).size ≤ sizeLine + 1; simp only [Array.size_append, List.size_toArray, List.length_nil]; omega))
  refine wpAny_pure ?_
  show wpAny (model prog w) A (do
      let o ← load s.heap.objs.size
      match o.data with
      | .seq xs _ => pure xs.toList
      | _ => unsupported "internal:collect") Q E { s with heap := (s.heap.push (seqObj "list" #[] 0)).update s.heap.objs.size (Obj.mapSeq (· ++ vs.toArray)) }
  refine wpAny_bind (wpAny_load (get?_update_seq (Heap.get?_push_size _ rfl) _) ?_)
  show wpAny _ _ (pure ((#[] : Array Value) ++ vs.toArray).toList) Q E _
  rw [show ((#[] : Array Value) ++ vs.toArray).toList = vs by simp]
  exact wpAny_pure h
theorem sorted_tup {prog : Program} {w : World} {A : Around} {E : Value → Shared → Prop} {l : Addr} {vs : List Value} {ns : List Int} {Q : Value → Shared → Prop} (hl : IsTup s.heap l vs.toArray) (hI : IntsAre vs ns) (h64 : vs.length < 64)
    (h : ∀ (out : Array Value) (ns' : List Int), IntsAre out.toList ns' → ns'.Perm ns → ns'.Pairwise (· ≤ ·) → Q (.ref (s.heap.objs.size + 1)) { s with heap := sortedAll s.heap vs out }) :
    wpAny (model prog w) A (call (.builtin "sorted") [.ref l]) Q E s := by
  refine Calls.call_function_entry kind_sorted plain_sorted entry_sorted (args_sorted1 _) ?_
  unfold Builtin.«sorted»
  refine wpAny_bind (m := checkCount "sorted" 1 1 _) (wpAny_pure ?_)
  refine wpAny_bind (collect_tup hl ?_ (by rw [sizeLine_eq]; omega))
  refine wpAny_bind (wpAny_newList ?_)
  have hsz : ((s.heap.push (seqObj "list" #[] 0)).update s.heap.objs.size (Obj.mapSeq (· ++ vs.toArray))).objs.size = s.heap.objs.size + 1 := by
    rw [Heap.size_update, size_push']
  have hoL : (((s.heap.push (seqObj "list" #[] 0)).update s.heap.objs.size (Obj.mapSeq (· ++ vs.toArray))).push (seqObj "list" vs.toArray 0)).get? (s.heap.objs.size + 1) = some (seqObj "list" vs.toArray 0) := by
    rw [← hsz]; exact Heap.get?_push_size _ rfl
  show wpAny _ _ _ _ _ { s with heap := ((s.heap.push (seqObj "list" #[] 0)).update s.heap.objs.size (Obj.mapSeq (· ++ vs.toArray))).push (seqObj "list" vs.toArray 0) }
  rw [hsz]
  refine wpAny_bind (wpAny_holding (wpAny_call_entry slot_list_sort ⟨_, hoL, rfl⟩ entry_list_sort (list_sort_tree hoL hI h64 fun out ns' a1 a2 a3 => ⟨_, rfl, ?_⟩) (args_list_sort _)))
  exact wpAny_pure ⟨_, rfl, h out ns' a1 a2 a3⟩
def rSortedN (K : PySem.W.Frag) : List V → Hp → VK → Prop := fun vs H Q => ∃ (a : Addr) (ns : List Int), vs = [V.ref a] ∧ (SqL K H a (ns.map V.int) ∨ SqT K H a (ns.map V.int)) ∧ ns.length < 64 ∧
  ∀ (ns' : List Int) (p : Addr), ns'.Perm ns → ns'.Pairwise (· ≤ ·) → H p = none → Q (.ref p) (upd H p (.lst (ns'.map V.int)))
theorem cr_sortedN : CallR X (.builtin "sorted") (rSortedN X.K) := by
  intro pins s σ H vs us Q I r h
  obtain ⟨a, ns, rfl, hs, h64, q⟩ := h
  rcases hs with hs | hs
  · exact cr_sorted pins s σ H [V.ref a] us Q I r ⟨a, ns, rfl, hs, h64, q⟩
  · obtain ⟨its, rv, hl, _⟩ := I.tuple hs
    rw [Vals.ref1 r]
    have hi := rv.ints
    refine sorted_tup hl hi (by rw [hi.length]; exact h64) fun out ns' h1 h2 h3 => ?_
    obtain ⟨ep, he'⟩ := PyProof.Rows.sortedAll_at s.heap its out
    have hlen : (ns'.map V.int).length ≤ sizeLine := by rw [List.length_map, h2.length_eq]; exact small64 h64
    exact ⟨.ref _, upd H (s.heap.objs.size + 1) (.lst (ns'.map V.int)), I.laid (t' := s.toks) (fun _ _ => PyProof.Rows.sortedAll_old) (Nat.le_succ _) ⟨hlen, out.toList, ep, vals_of_ints h1, he'⟩, rfl, q ns' _ h2 h3 (I.hok.fresh (Nat.le_succ _))⟩
end
end Pe
end

section
set_option maxRecDepth 100000
/-! Pe5: equal data, what is in a sequence, dicts by tuple keys. -/
namespace Pe
open PySem PySem.Spec PyProof.Rows L2

/-! ### trees are data -/
section
variable {K : KW} {F : Hp}
mutual
theorem Rep.dp : ∀ {v : V} {d : D}, Rep K F v d → d.canLay0 = true → Dp K.1 F v d
  | _, _, .non, _ => .non
  | _, _, .bl b, _ => .bl b
  | _, _, .int i, _ => .int i
  | _, _, .str x, _ => .str x
  | _, _, .lst h r, z => .lst (.inl h) (RepL.dp r (by simpa [PyData.canLay0] using z))
  | _, _, .tup h r, z => .tup h (RepL.dp r (by simpa [PyData.canLay0] using z))
  | _, _, .dN h r, z => by simp [PyData.canLay0] at z
theorem RepL.dp : ∀ {v : List V} {d : List D}, RepL K F v d → PyData.canLayAll0 d = true → DpAll K.1 F v d
  | _, _, .nil, _ => .nil
  | _, _, .cons h r, z => by
    rw [PyData.canLayAll0, Bool.and_eq_true] at z
    exact .cons (Rep.dp h z.1) (RepL.dp r z.2)
end
end
theorem okEq_lay {d : D} (h : okEq d) : d.canLay0 = true := SeqAt.canLay_of_shaped h
theorem okEq_all {ds : List D} (h : ∀ y ∈ ds, okEq y) : PyData.canLayAll0 ds = true := by
  induction ds with
  | nil => simp [PyData.canLayAll0]
  | cons d ds ih => simp [PyData.canLayAll0, okEq_lay (h d List.mem_cons_self), ih fun y hy => h y (List.mem_cons_of_mem _ hy)]
section
variable {X : Cx} {pins : List (Addr × Obj)} {σ : L2.St} {H F : Hp} {s : Shared}
theorem rep_reads {w : World} (I : Inv X pins σ H s) {v : V} {u : Value} {d : D} (r : Rep (X.K, w) H v d) (z : d.canLay0 = true) (q : RelV v u) : ∃ as, Reads s.heap u d as := Dp.reads I d v u (r.dp z) q
theorem repL_reads {w : World} (I : Inv X pins σ H s) {v : List V} {u : List Value} {d : List D} (r : RepL (X.K, w) H v d) (z : PyData.canLayAll0 d = true) (q : Vals v u) : ∃ as, ReadsAll s.heap u d as := Dp.readsAll I d v u (r.dp z) q
/-- == -/
def rEqN (K : KW) (neg : Bool) : R2 := fun x y H Q => ∃ d e, Rep K H x d ∧ Rep K H y e ∧ okEq d ∧ okEq e ∧ Q (.bl (eqd d e ^^ neg)) H
theorem op_eqN {w : World} (hu : X.A.units + 64 < cLine) : OpR X (compareOp .Eq) (rEqN (X.K, w) false) := by
  intro pins s σ H x y v u Q I rx ry h
  obtain ⟨d, e, hd, he, sd, se, q⟩ := h
  rw [Bool.xor_false] at q
  exact op_eqD hu pins s σ H x y v u Q I rx ry ⟨d, e, hd.dp (okEq_lay sd), he.dp (okEq_lay se), sd, se, q⟩
theorem op_neN {w : World} (hu : X.A.units + 64 < cLine) : OpR X (compareOp .NotEq) (rEqN (X.K, w) true) := by
  intro pins s σ H x y v u Q I rx ry h
  obtain ⟨d, e, hd, he, sd, se, q⟩ := h
  rw [Bool.xor_true] at q
  exact op_neD hu pins s σ H x y v u Q I rx ry ⟨d, e, hd.dp (okEq_lay sd), he.dp (okEq_lay se), sd, se, q⟩
/-! ### in -/
noncomputable def eqW (h : Heap) (d : D) (u : Value) : Bool := @decide (∃ e as, Reads h u e as ∧ PyData.eqv e d = true) (Classical.propDecidable _)
theorem eqW_of {h : Heap} {d e : D} {u : Value} {as : List Addr} (r : Reads h u e as) : eqW h d u = PyData.eqv e d := by
  unfold eqW
  by_cases z : PyData.eqv e d = true
  · rw [z]
    exact @decide_eq_true _ (Classical.propDecidable _) ⟨e, as, r, z⟩
  · rw [Bool.eq_false_iff.mpr z]
    refine @decide_eq_false _ (Classical.propDecidable _) fun ⟨e', as', r', z'⟩ => z ?_
    rw [(Reads.unique r _ _ r').1]
    exact z'
theorem any_eqW {h : Heap} {d : D} : ∀ {es : List D} {us : List Value} {as : List Addr}, ReadsAll h us es as → us.any (eqW h d) = es.any fun e => PyData.eqv e d
  | _, _, _, .nil => rfl
  | _, _, _, .cons a b => by rw [List.any_cons, List.any_cons, eqW_of a, any_eqW b]
theorem mem_eqW {A : Around} {s : Shared} {d : D} {v : Value} {bs : List Addr} (rb : Reads s.heap v d bs) (zd : okEq d) (hu : A.units + 64 < cLine) : ∀ {es : List D} {us : List Value} {as : List Addr}, ReadsAll s.heap us es as → (∀ e ∈ es, okEq e) → ∀ u ∈ us, SeqAt.EqAt A s u v (eqW s.heap d u)
  | _, _, _, .nil, _ => fun _ h => by cases h
  | _, _, _, .cons a b, z => fun u hm => by
    rcases List.mem_cons.mp hm with rfl | hm
    · rw [eqW_of a]
      have z1 := z _ List.mem_cons_self
      exact SeqAt.eqAt_reads _ _ A s _ _ _ _ a rb (okEq_lay z1) (okEq_lay zd) (SeqAt.room_of_shaped z1 hu)
    · exact mem_eqW rb zd hu b (fun e he => z e (List.mem_cons_of_mem _ he)) u hm
def rInN (K : KW) (neg : Bool) : R2 := fun x y H Q => ∃ d p xs ds, y = .ref p ∧ (SqL K.1 H p xs ∨ SqT K.1 H p xs) ∧ Rep K H x d ∧ RepL K H xs ds ∧ memR d ds ∧ Q (.bl (memB d ds ^^ neg)) H
theorem op_inN {w : World} (hu : X.A.units + 65 < cLine) : OpR X (compareOp .In) (rInN (X.K, w) false) := by
  intro pins s σ H x y v u Q I rx ry h
  obtain ⟨d, p, xs, ds, rfl, hq, hd, hds, ⟨zd, zs⟩, q⟩ := h
  cases ry
  rw [Bool.xor_false] at q
  obtain ⟨bs, rb⟩ := rep_reads I hd (okEq_lay zd) rx
  have hu' : X.A.in1.units + 64 < cLine := by
    show X.A.units + 1 + 64 < cLine
    omega
  rcases hq with hq | hq
  · obtain ⟨its, r, pl, hz⟩ := I.list hq
    obtain ⟨as, ra⟩ := repL_reads I hds (okEq_all zs) r
    refine SeqAt.in_listAt (eqW s.heap d) pl.isList (fun w hw => mem_eqW rb zd hu' ra zs w (by simpa using hw)) ⟨.bl _, H, I, rfl, ?_⟩
    rw [show its.toArray.any (eqW s.heap d) = its.any (eqW s.heap d) by simp, any_eqW ra]
    exact q
  · obtain ⟨its, r, pl, hz⟩ := I.tuple hq
    obtain ⟨as, ra⟩ := repL_reads I hds (okEq_all zs) r
    refine SeqAt.in_tupleAt (eqW s.heap d) pl (fun w hw => mem_eqW rb zd hu' ra zs w (by simpa using hw)) ⟨.bl _, H, I, rfl, ?_⟩
    rw [show its.toArray.any (eqW s.heap d) = its.any (eqW s.heap d) by simp, any_eqW ra]
    exact q
theorem op_notInN {w : World} (hu : X.A.units + 65 < cLine) : OpR X (compareOp .NotIn) (rInN (X.K, w) true) := by
  intro pins s σ H x y v u Q I rx ry h
  obtain ⟨d, p, xs, ds, rfl, hq, hd, hds, ⟨zd, zs⟩, q⟩ := h
  cases ry
  rw [Bool.xor_true] at q
  obtain ⟨bs, rb⟩ := rep_reads I hd (okEq_lay zd) rx
  have hu' : X.A.in1.units + 64 < cLine := by
    show X.A.units + 1 + 64 < cLine
    omega
  rcases hq with hq | hq
  · obtain ⟨its, r, pl, hz⟩ := I.list hq
    obtain ⟨as, ra⟩ := repL_reads I hds (okEq_all zs) r
    refine SeqAt.notIn_listAt (eqW s.heap d) pl.isList (fun w hw => mem_eqW rb zd hu' ra zs w (by simpa using hw)) ⟨.bl _, H, I, rfl, ?_⟩
    rw [show its.toArray.any (eqW s.heap d) = its.any (eqW s.heap d) by simp, any_eqW ra]
    exact q
  · obtain ⟨its, r, pl, hz⟩ := I.tuple hq
    obtain ⟨as, ra⟩ := repL_reads I hds (okEq_all zs) r
    refine SeqAt.notIn_tupleAt (eqW s.heap d) pl (fun w hw => mem_eqW rb zd hu' ra zs w (by simpa using hw)) ⟨.bl _, H, I, rfl, ?_⟩
    rw [show its.toArray.any (eqW s.heap d) = its.any (eqW s.heap d) by simp, any_eqW ra]
    exact q

/-! ### dicts -/
mutual
theorem rep_key {w : World} (I : Inv X pins σ H s) : ∀ (n : Nat) {v : V} {u : Value} {d : D}, Rep (X.K, w) H v d → keyN n d = true → RelV v u → KeyAt s.heap d u
  | _, _, _, _, .int i, _, q => by
    obtain ⟨t, rfl⟩ := q
    exact .int i t
  | _, _, _, _, .str i, _, q => by
    obtain ⟨t, rfl⟩ := q
    exact .str i t
  | n + 1, _, _, _, .tup h r, k, q => by
    cases q
    obtain ⟨its, rv, ⟨o, ho, hc, nn, hd⟩, _⟩ := I.tuple h
    exact .tup ho hc hd (rep_keys I n r k rv)
  | 0, _, _, _, .tup h r, k, q => by cases k
  | _, _, _, _, .non, k, _ => by cases k
  | _, _, _, _, .bl _, k, _ => by cases k
  | _, _, _, _, .lst _ _, k, _ => by cases k
  | _, _, _, _, .dN _ _, k, _ => by cases k
theorem rep_keys {w : World} (I : Inv X pins σ H s) : ∀ (n : Nat) {v : List V} {u : List Value} {d : List D}, RepL (X.K, w) H v d → keysN n d = true → Vals v u → KeysAt s.heap d u
  | _, _, _, _, .nil, _, .nil => .nil
  | n, _, _, _, .cons h r, k, .cons a b => by
    have k' : (keyN n _ && keysN n _) = true := k
    rw [Bool.and_eq_true] at k'
    exact .cons (rep_key I n h k'.1 a) (rep_keys I n r k'.2 b)
end
theorem key_is {w : World} (I : Inv X pins σ H s) {v : V} {u : Value} {d : D} (r : Rep (X.K, w) H v d) (k : isKey d = true) (q : RelV v u) : ∃ b, u = .ref b ∧ v = .ref b ∧ (nk X.prog X.w).is s.heap d b := by
  have z := rep_key I 7 r (isKey_N k) q
  cases r with
  | tup h r' =>
    cases q
    exact ⟨_, rfl, rfl, k, z⟩
  | _ => cases k
theorem nk_room {A : Around} (hu : A.units + 65 < cLine) : (nk X.prog X.w).room A.in1 := by
  show A.units + 1 + 64 < cLine
  omega
theorem nk_eq {x y : D} (hx : isKey x = true) (hy : isKey y = true) : eqd x y = decide (x = y) := by
  rw [Bool.eq_iff_iff, key_eqv 7 7 x y (isKey_N hx) (isKey_N hy)]
  simp
theorem dn_rd (I : Inv X pins σ H s) {a : Addr} {xs : DX} {ds : List (D × D)} (e : Rd H a (dN X.w a xs)) (r : RepM (X.K, X.w) H xs ds) :
    (a == sysModules) = false ∧ xs.length ≤ sizeLine ∧ ∃ vs, VX xs vs ∧ s.heap.DictOfH (nk X.prog X.w) a vs ∧ vs.length = xs.length := by
  obtain ⟨⟨h1, h2, o, es, ep, vs, h3, h4, h5, h6, h7, h8⟩, _⟩ := e.ok I.hok
  have keys : ∀ {xs : DX} {ds : List (D × D)} {vs : List (D × Addr × Value)}, RepM (X.K, X.w) H xs ds → VX xs vs → (∀ x ∈ vs, (nk X.prog X.w).is s.heap x.1 x.2.1) ∧ vs.map (·.1) = xs.map (·.1) := by
    intro xs
    induction xs with
    | nil =>
      intro ds vs r h
      cases h
      exact ⟨fun _ z => absurd z (List.not_mem_nil), rfl⟩
    | cons x xs ih =>
      intro ds vs r h
      cases h with
      | cons h t =>
        cases r with
        | cons k1 k2 k3 k4 =>
          obtain ⟨i1, i2⟩ := ih k4 t
          obtain ⟨e1, e2, e3⟩ := h
          refine ⟨fun y hy => ?_, by rw [List.map_cons, List.map_cons, i2, ← e1]⟩
          rcases List.mem_cons.mp hy with rfl | hy
          · rw [← e1, ← e2]
            obtain ⟨b, q1, q2, q3⟩ := key_is (u := .ref _) I k2 k1 rfl
            cases q2
            exact q3
          · exact i1 y hy
  obtain ⟨k1, k2⟩ := keys r h6
  exact ⟨h1, h2, vs, h6, ⟨o, es, ep, h3, h4, h5, h7, k1, by rw [k2]; exact h8⟩, (Paired.length h6).symm⟩
/-- the entry at a key -/
theorem look {K : KW} {F : Hp} {k : D} (hk : isKey k = true) : ∀ {xs : DX} {ds : List (D × D)} {vs : List (D × Addr × Value)}, RepM K F xs ds → VX xs vs →
    (getD ds k = none ∧ atKey vs k = none) ∨ ∃ d v p, getD ds k = some d ∧ atKey vs k = some p ∧ RelV v p.2 ∧ Rep K F v d := by
  intro xs
  induction xs with
  | nil =>
    intro ds vs r h
    cases h
    cases r
    exact .inl ⟨rfl, rfl⟩
  | cons x xs ih =>
    intro ds vs r h
    cases h with
    | @cons _ y _ vs h t =>
      cases r with
      | @cons k' q v _ d ds k1 k2 k3 k4 =>
        obtain ⟨e1, e2, e3⟩ := h
        by_cases z : k' = k
        · right
          refine ⟨d, v, y.2, ?_, ?_, e3, k3⟩
          · unfold getD
            rw [List.find?_cons, show eqd (k', d).1 k = true by rw [nk_eq k1 hk]; exact decide_eq_true z]
            rfl
          · unfold atKey
            have z' : y.1 = k := e1.symm.trans z
            rw [List.find?_cons, show decide (y.1 = k) = true from decide_eq_true z']
            rfl
        · have g1 : getD ((k', d) :: ds) k = getD ds k := by
            unfold getD
            rw [List.find?_cons, show eqd (k', d).1 k = false by rw [nk_eq k1 hk]; exact decide_eq_false z]
          have g2 : atKey (y :: vs) k = atKey vs k := by
            unfold atKey
            have z' : ¬ y.1 = k := fun q => z (e1.trans q)
            rw [List.find?_cons, show decide (y.1 = k) = false from decide_eq_false z']
          rw [g1, g2]
          exact ih k4 t
variable {A : Around} {E : Value → Shared → Prop} {a : Addr} {xs : DX} {ds : List (D × D)} {k : D} {kv : V} {ku : Value}
theorem n_get {Q : Value → Shared → Prop} (hu : A.units + 65 < cLine) (I : Inv X pins σ H s) (fh : Sub F H) (e : Rd H a (dN X.w a xs)) (r : RepM (X.K, X.w) F xs ds) (hk : isKey k = true) (rk : Rep (X.K, X.w) H kv k) (q : RelV kv ku) {d : D} (hd : getD ds k = some d)
    (h : ∀ v w' s', Inv X pins σ H s' → RelV v w' → Rep (X.K, X.w) F v d → Q w' s') : wpAny (model X.prog X.w) A (getItem (.ref a) ku) Q E s := by
  obtain ⟨b, rfl, rfl, hb⟩ := key_is I rk hk q
  obtain ⟨h1, h2, vs, h3, h4, _⟩ := dn_rd I e (r.mono fh)
  rcases look hk r h3 with ⟨z, _⟩ | ⟨d', v, p, z1, z2, z3, z4⟩
  · rw [hd] at z
    cases z
  · rw [hd] at z1
    cases z1
    exact wpAny_getItem_heap (nk_room hu) hb h4 z2 (h v _ _ (I.tok _) z3 z4)
theorem n_in {Q : Value → Shared → Prop} (hu : A.units + 65 < cLine) (I : Inv X pins σ H s) (fh : Sub F H) (e : Rd H a (dN X.w a xs)) (r : RepM (X.K, X.w) F xs ds) (hk : isKey k = true) (rk : Rep (X.K, X.w) H kv k) (q : RelV kv ku)
    (h : ∀ s', Inv X pins σ H s' → Q (.bool (getD ds k).isSome) s') : wpAny (model X.prog X.w) A (compareOp .In ku (.ref a)) Q E s := by
  obtain ⟨b, rfl, rfl, hb⟩ := key_is I rk hk q
  obtain ⟨h1, h2, vs, h3, h4, _⟩ := dn_rd I e (r.mono fh)
  refine wpAny_in_heap (nk_room hu) hb h1 h4 ?_
  have z : (atKey vs k).isSome = (getD ds k).isSome := by
    rcases look hk r h3 with ⟨z, z'⟩ | ⟨d', v, p, z1, z2, z3, z4⟩
    · rw [z, z']
      rfl
    · rw [z1, z2]
      rfl
  rw [z]
  exact h _ (I.tok _)
theorem n_notIn {Q : Value → Shared → Prop} (hu : A.units + 65 < cLine) (I : Inv X pins σ H s) (fh : Sub F H) (e : Rd H a (dN X.w a xs)) (r : RepM (X.K, X.w) F xs ds) (hk : isKey k = true) (rk : Rep (X.K, X.w) H kv k) (q : RelV kv ku)
    (h : ∀ s', Inv X pins σ H s' → Q (.bool (!(getD ds k).isSome)) s') : wpAny (model X.prog X.w) A (compareOp .NotIn ku (.ref a)) Q E s := by
  obtain ⟨b, rfl, rfl, hb⟩ := key_is I rk hk q
  obtain ⟨h1, h2, vs, h3, h4, _⟩ := dn_rd I e (r.mono fh)
  refine wpAny_notIn_heap (nk_room hu) hb h1 h4 ?_
  have z : (atKey vs k).isSome = (getD ds k).isSome := by
    rcases look hk r h3 with ⟨z, z'⟩ | ⟨d', v, p, z1, z2, z3, z4⟩
    · rw [z, z']
      rfl
    · rw [z1, z2]
      rfl
  rw [z]
  exact h _ (I.tok _)
theorem n_get2 {Q : Value → Shared → Prop} (hu : A.units + 65 < cLine) (I : Inv X pins σ H s) (fh : Sub F H) (e : Rd H a (dN X.w a xs)) (r : RepM (X.K, X.w) F xs ds) (hk : isKey k = true) (rk : Rep (X.K, X.w) H kv k) (q : RelV kv ku) {dv : V} {du : Value} {dd : D} (rd : Rep (X.K, X.w) F dv dd) (qd : RelV dv du)
    (h : ∀ v w' s', Inv X pins σ H s' → RelV v w' → Rep (X.K, X.w) F v ((getD ds k).getD dd) → Q w' s') : wpAny (model X.prog X.w) A (call (.builtin "dict.get") [.ref a, ku, du]) Q E s := by
  obtain ⟨b, rfl, rfl, hb⟩ := key_is I rk hk q
  obtain ⟨h1, h2, vs, h3, h4, _⟩ := dn_rd I e (r.mono fh)
  refine call_meetsIn PySem.F.slot_dict_get h4.typeIs PySem.F.entry_dict_get (PySem.F.args_dict_get_3 _ _ _) (meetsH_dict_get_default (nk X.prog X.w) a b h1 du) ⟨nk_room hu, k, vs, hb, h4, ?_⟩
  rcases look hk r h3 with ⟨z, z'⟩ | ⟨d', v, p, z1, z2, z3, z4⟩
  · rw [z']
    rw [z] at h
    exact h dv _ _ (I.tok _) qd rd
  · rw [z2]
    rw [z1] at h
    exact h v _ _ (I.tok _) z3 z4
noncomputable def putX (xs : DX) (k : D) (b : Addr) (v : V) : DX := if xs.any (fun x => decide (x.1 = k)) then xs.map fun x => if x.1 = k then (x.1, x.2.1, v) else x else xs ++ [(k, b, v)]
theorem anyX {K : KW} {F : Hp} (hk : isKey k = true) : ∀ {xs : DX} {ds : List (D × D)}, RepM K F xs ds → (xs.any fun x => decide (x.1 = k)) = ds.any fun p => eqd p.1 k
  | _, _, .nil => rfl
  | _, _, .cons k1 _ _ k4 => by rw [List.any_cons, List.any_cons, nk_eq k1 hk, anyX hk k4]
theorem anyV : ∀ {xs : DX} {vs : List (D × Addr × Value)}, VX xs vs → (atKey vs k).isSome = xs.any fun x => decide (x.1 = k)
  | _, _, .nil => rfl
  | x :: xs, y :: vs, .cons ⟨e1, _, _⟩ t => by
    rw [List.any_cons, ← anyV t]
    unfold atKey
    rw [List.find?_cons, e1]
    by_cases z : y.1 = k
    · rw [decide_eq_true z]
      rfl
    · rw [decide_eq_false z]
      rfl
theorem mapX {K : KW} {F : Hp} (hk : isKey k = true) {v : V} {d : D} (rv : Rep K F v d) : ∀ {xs : DX} {ds : List (D × D)}, RepM K F xs ds → RepM K F (xs.map fun x => if x.1 = k then (x.1, x.2.1, v) else x) (ds.map fun p => if eqd p.1 k then (p.1, d) else p)
  | _, _, .nil => .nil
  | _, _, @RepM.cons _ _ k' q v' _ d' ds k1 k2 k3 k4 => by
    rw [List.map_cons, List.map_cons]
    show RepM K F ((if k' = k then (k', q, v) else (k', q, v')) :: _) ((if eqd k' k = true then (k', d) else (k', d')) :: _)
    by_cases z : k' = k
    · rw [if_pos z, if_pos (show eqd k' k = true by rw [nk_eq k1 hk]; exact decide_eq_true z)]
      exact .cons k1 k2 rv (mapX hk rv k4)
    · rw [if_neg z, if_neg (show ¬ eqd k' k = true by rw [nk_eq k1 hk]; simp [z])]
      exact .cons k1 k2 k3 (mapX hk rv k4)
theorem snocX {K : KW} {F : Hp} (hk : isKey k = true) {b : Addr} (rk : Rep K F (.ref b) k) {v : V} {d : D} (rv : Rep K F v d) : ∀ {xs : DX} {ds : List (D × D)}, RepM K F xs ds → RepM K F (xs ++ [(k, b, v)]) (ds ++ [(k, d)])
  | _, _, .nil => .cons hk rk rv .nil
  | _, _, .cons k1 k2 k3 k4 => .cons k1 k2 k3 (snocX hk rk rv k4)
theorem putX_ok {K : KW} {F : Hp} (hk : isKey k = true) {b : Addr} (rk : Rep K F (.ref b) k) {v : V} {d : D} (rv : Rep K F v d) (r : RepM K F xs ds) : RepM K F (putX xs k b v) (putD ds k d) := by
  unfold putX putD
  rw [anyX hk r]
  split
  · exact mapX hk rv r
  · exact snocX hk rk rv r
theorem putX_len (xs : DX) (k : D) (b : Addr) (v : V) : (putX xs k b v).length ≤ xs.length + 1 := by
  unfold putX
  split
  · rw [List.length_map]
    omega
  · rw [List.length_append]
    exact Nat.le_refl _
theorem mapV {v : V} {u : Value} (q : RelV v u) (k : D) : ∀ {xs : DX} {vs : List (D × Addr × Value)}, VX xs vs → VX (xs.map fun x => if x.1 = k then (x.1, x.2.1, v) else x) (vs.map (putAt k u))
  | _, _, .nil => .nil
  | x :: xs, y :: vs, .cons ⟨e1, e2, e3⟩ t => by
    rw [List.map_cons, List.map_cons]
    refine .cons ?_ (mapV q k t)
    unfold putAt
    rw [e1]
    by_cases z : y.1 = k
    · rw [if_pos z, if_pos z]
      exact ⟨rfl, e2, q⟩
    · rw [if_neg z, if_neg z]
      exact ⟨e1, e2, e3⟩
theorem snocV {v : V} {u : Value} (q : RelV v u) (k : D) (b : Addr) : ∀ {xs : DX} {vs : List (D × Addr × Value)}, VX xs vs → VX (xs ++ [(k, b, v)]) (vs ++ [(k, b, u)])
  | _, _, .nil => .cons ⟨rfl, rfl, q⟩ .nil
  | _, _, .cons h t => .cons h (snocV q k b t)
theorem putV {b : Addr} {v : V} {u : Value} (q : RelV v u) {xs : DX} {vs : List (D × Addr × Value)} (h : VX xs vs) : VX (putX xs k b v) (storedH vs k b u) := by
  unfold putX storedH
  rw [anyV h]
  split
  · exact mapV q k h
  · exact snocV q k b h
theorem keysV : ∀ {xs : DX} {vs : List (D × Addr × Value)}, VX xs vs → xs.map (·.1) = vs.map (·.1)
  | _, _, .nil => rfl
  | _, _, .cons h t => by rw [List.map_cons, List.map_cons, keysV t, h.1]
theorem n_set {Q : Unit → Shared → Prop} (hu : A.units + 65 < cLine) (I : Inv X pins σ H s) (fh : Sub F H) (e : H a = some (dN X.w a xs)) (r : RepM (X.K, X.w) F xs ds) (hk : isKey k = true) (rk : Rep (X.K, X.w) F kv k) (q : RelV kv ku) {v : V} {u : Value} (qv : RelV v u) (hl : xs.length < sizeLine)
    (h : ∀ b s', kv = .ref b → Inv X pins σ (upd H a (dN X.w a (putX xs k b v))) s' → Q () s') : wpAny (model X.prog X.w) A (setItem (.ref a) ku u) Q E s := by
  obtain ⟨b, rfl, rfl, hb⟩ := key_is I (rk.mono fh) hk q
  obtain ⟨h1, h2, vs, h3, h4, h5⟩ := dn_rd I (.inl e) (r.mono fh)
  have hz : vs.length ≤ sizeLine := by omega
  refine wpAny_setItem_heap (hsz := hz) (nk_room hu) hb h4 fun h' dd' hs => h b _ rfl ?_
  obtain ⟨o, es, ep, hq, e2, e3, e4, _, e5⟩ := dd'
  have hlen := putX_len xs k b v
  have pv := putV (k := k) (b := b) qv h3
  have nd : ((putX xs k b v).map (·.1)).Nodup := by
    have z : (putX xs k b v).map (·.1) = (storedH vs k b u).map (·.1) := keysV pv
    rw [z]
    exact e5
  have phi : PhiN X.w a (putX xs k b v) h' := ⟨h1, by omega, o, es, ep, _, hq, e2, e3, pv, e4, nd⟩
  refine d_write I (by rw [e]; exact True.intro) hs ⟨o, hq⟩ ⟨phi, ⟨o, hq⟩, fun g1 g2 p1 pk => ?_⟩
  obtain ⟨w1, w2, o', es', ep', vs', w3, w4, w5, w6, w7, w8⟩ := p1
  exact ⟨w1, w2, o', es', ep', vs', pk _ w3, w4, w5, w6, w7, w8⟩
theorem phi_keeps {w : World} {a : Addr} {xs : DX} (g1 g2 : Heap) (p1 : PhiN w a xs g1) (pk : ∀ o, g1.get? a = some o → g2.get? a = some o) : PhiN w a xs g2 := by
  obtain ⟨w1, w2, o', es', ep', vs', w3, w4, w5, w6, w7, w8⟩ := p1
  exact ⟨w1, w2, o', es', ep', vs', pk _ w3, w4, w5, w6, w7, w8⟩
theorem dn_empty {P : Program} {w : World} {H : Hp} (h : Heap) (hb : sysModules < h.objs.size) : ObjOk P w H (h.push { cls := .type "dict", data := .dict #[] }) h.objs.size (dN w h.objs.size []) :=
  ⟨⟨beq_eq_false_iff_ne.mpr (Ne.symm (Nat.ne_of_lt hb)), Nat.zero_le _, _, #[], 0, [], Heap.get?_push_size _ rfl, ⟨rfl, rfl, rfl⟩, rfl, .nil, rfl, List.nodup_nil⟩, ⟨_, Heap.get?_push_size _ rfl⟩, phi_keeps⟩
def tDNew (w : World) : TE := fun _ H Q => ∀ p, H p = none → Q (.ref p) (upd H p (dN w p []))
theorem pe_dnewN {pos : Pos} : PE X (.Dict [] [] pos) (tDNew X.w) := ⟨fun pins s σ H Q I h =>
  wpAny_Dict_empty ⟨.ref s.heap.objs.size, _, I.laid (a := s.heap.objs.size) (o := dN X.w s.heap.objs.size []) (t' := s.toks) (fun _ _ q => Heap.get?_push_of_some _ q) (Nat.le_refl _) (dn_empty s.heap I.big), rfl, h _ (I.hok.fresh (Nat.le_refl _))⟩⟩
end
end Pe
end

section
set_option maxRecDepth 100000
/-! Pe6: walks over dicts by tuple keys; a dict display of tuple keys. -/
namespace Pe
open PySem PySem.Spec PyProof.Rows L2

section
variable {X : Cx} {pins : List (Addr × Obj)} {σ : L2.St} {H F : Hp} {s : Shared} {d : Addr} {o : Obj}
theorem ent_get : ∀ {xs : DX} {vs : List (D × Addr × Value)}, VX xs vs → ∀ {i : Nat} {k : D} {q : Addr} {v : V}, xs[i]? = some (k, q, v) → ∃ u, vs[i]? = some (k, q, u) ∧ RelV v u
  | _, _, .nil, _, _, _, _, e => by simp at e
  | _, y :: _, .cons ⟨h1, h2, h3⟩ t, 0, k, q, v, e => by
    simp at e
    subst e
    obtain ⟨a, b, c⟩ := y
    simp at h1 h2
    subst h1 h2
    exact ⟨c, rfl, h3⟩
  | _, _, .cons h t, i + 1, k, q, v, e => by
    obtain ⟨u, z1, z2⟩ := ent_get t (i := i) (by simpa using e)
    exact ⟨u, by simpa using z1, z2⟩
theorem frzN {xs : DX} {w : World} (I : Inv X pins σ H s) (h : H d = some (.frz o (dN w d xs))) :
    (d == sysModules) = false ∧ s.heap.get? d = some o ∧ o.ExactDict ∧ ∃ (es : Array DictEntry) (ep : Nat), o.data = .dict es ep ∧ es.size = xs.length ∧
      ∀ (i : Nat) (k : D) (q : Addr) (v : V), xs[i]? = some (k, q, v) → ∃ (en : DictEntry), es[i]? = some en ∧ en.key = .ref q ∧ RelV v en.val := by
  obtain ⟨hd, ⟨h1, h2, o', es, ep, vs, h3, h4, h5, h6, h7, h8⟩, _⟩ := I.hok d _ h
  rw [hd] at h3
  cases h3
  refine ⟨h1, hd, h4, es, ep, h5, ?_, fun i k q v e => ?_⟩
  · rw [← Array.length_toList, h7, List.length_map]
    exact (Paired.length h6).symm
  · obtain ⟨u, z1, z2⟩ := ent_get h6 e
    refine ⟨entN w (k, q, u), ?_, rfl, z2⟩
    rw [← Array.getElem?_toList, h7, List.getElem?_map, z1]
    rfl
/-- the keys of the locked dict at d -/
def Itkn (w : World) (d : Addr) (o : Obj) (xs : DX) : It :=
  ⟨fun i H => H d = some (.frz o (dN w d xs)) ∧ i < xs.length, fun i H x H' => H' = H ∧ ∃ k q v, xs[i]? = some (k, q, v) ∧ x = .ref q, fun i H => H d = some (.frz o (dN w d xs)) ∧ xs.length ≤ i⟩
/-- the pairs, each a new tuple -/
def Itin (w : World) (d : Addr) (o : Obj) (xs : DX) : It :=
  ⟨fun i H => H d = some (.frz o (dN w d xs)) ∧ i < xs.length, fun i H x H' => ∃ T k q v, xs[i]? = some (k, q, v) ∧ x = .ref T ∧ H T = none ∧ H' = upd H T (.tup [.ref q, v]), fun i H => H d = some (.frz o (dN w d xs)) ∧ xs.length ≤ i⟩
variable {P : Program} {w : World} {K : PySem.W.Frag} {tg : Expr} {es : Array DictEntry} {ep : Nat}
theorem turn_keysN {kvs : DX} (it : Addr) (hod : o.data = .dict es ep) : Turn P w K tg (Itkn w d o kvs) [it] it (fun i h => h.IsKeyIter it d i kvs.length ep) where
  mem := by simp
  obj := fun i h st b hb => by
    have e : b = it := by simpa using hb
    subst e
    obtain ⟨oi, e, c, dd⟩ := st
    exact ⟨oi, e, fun v z => by rw [dd] at z; cases z⟩
  keep := fun i h h' st k => st.at fun oi e => k it (by simp) oi e
  item := by
    intro X hP hw hK hc i pins s σ H E I hf st hg
    subst hP hw hK
    obtain ⟨hd, hi⟩ := hg
    obtain ⟨f0, f1, f2, f3, f4, f5⟩ := hf it (by simp)
    obtain ⟨hs, hgd, hx, es', ep', hdt, hsz, ent⟩ := frzN I hd
    obtain ⟨rfl, rfl⟩ := dict_ep hod hdt
    obtain ⟨⟨k, q, v⟩, hkv⟩ : ∃ p, kvs[i]? = some p := ⟨kvs[i], List.getElem?_eq_getElem hi⟩
    obtain ⟨en, hen, hkey, hval⟩ := ent i k q v hkv
    refine next_key_item st hgd hdt hsz hen fun h' st' sb => ?_
    have I1 : Inv X pins σ H { s with heap := h' } := I.turned (t' := s.toks) (fun b ob hb e => (sb.2 b hb).trans e) f0 f1 f3 f4 f5
    obtain ⟨oi, e, c, dd⟩ := id st'
    exact ⟨en.key, rfl, go_of (s := { s with heap := h' }) e c dd (by decide) ⟨.ref q, H, I1, hkey, ⟨rfl, k, q, v, hkv, rfl⟩, st', fun b hb => (hf b hb).1⟩⟩
  done := by
    intro X hP hw hK hc i pins s σ H E I hf st hg
    subst hP hw hK
    obtain ⟨hd, hi⟩ := hg
    obtain ⟨f0, f1, f2, f3, f4, f5⟩ := hf it (by simp)
    obtain ⟨hs, hgd, hx, es', ep', hdt, hsz, ent⟩ := frzN I hd
    obtain ⟨rfl, rfl⟩ := dict_ep hod hdt
    exact next_key_end (I.ok.hd hc) st hgd hdt hsz hi fun h' eb => ⟨rfl, I.turned (t' := s.toks) (fun b ob hb e => eb b ob hb e) f0 f1 f3 f4 f5⟩
  self := fun A i s Q E st h => by
    refine wpAny_pyIter_slot st.typeIs F.slot_dict_keyiterator_iter (wpAny_call_entry F.slot_dict_keyiterator_iter st.typeIs F.entry_dict_keyiterator_iter ?_ (F.args_dict_keyiterator_iter_1 _))
    show wpAny _ _ (ret (.ref it)) _ _ s
    exact wpAny_pure ⟨_, rfl, "dict_keyiterator", _, st.typeIs, F.slot_dict_keyiterator_next.lookup, h⟩
theorem turn_itemsN {kvs : DX} {elts : List Expr} {kk : Nat} {tpos : Pos} (it : Addr) (hod : o.data = .dict es ep) :
    Turn P w K (.Tuple elts kk tpos) (Itin w d o kvs) [it] it (fun i h => ∃ ok ov, IsItemIter h it d i kvs.length ep ok ov) where
  mem := by simp
  obj := fun i h st b hb => by
    have e : b = it := by simpa using hb
    subst e
    obtain ⟨ok, ov, e⟩ := st
    exact ⟨_, e, fun v z => nomatch z⟩
  keep := fun i h h' st k => let ⟨ok, ov, e⟩ := st; ⟨ok, ov, k it (by simp) _ e⟩
  item := by
    intro X hP hw hK hc i pins s σ H E I hf st hg
    subst hP hw hK
    obtain ⟨hd, hi⟩ := hg
    obtain ⟨hs, hgd, hx, es', ep', hdt, hsz, ent⟩ := frzN I hd
    obtain ⟨rfl, rfl⟩ := dict_ep hod hdt
    obtain ⟨⟨k, q, v⟩, hkv⟩ : ∃ p, kvs[i]? = some p := ⟨kvs[i], List.getElem?_eq_getElem hi⟩
    obtain ⟨en, hen, hkey, hval⟩ := ent i k q v hkv
    obtain ⟨ok, ov, he⟩ := st
    rw [← hsz] at he
    have hlt : it < s.heap.objs.size := Heap.lt_size he
    have hi' : i < es'.size := by omega
    have een : es'[i] = en := by
      have z := Array.getElem?_eq_getElem hi'
      rw [hen] at z
      exact (Option.some.inj z).symm
    refine DT.nextI he ⟨_, hgd, hx, hdt⟩ hi' fun h' ho hT hz hk => ?_
    rw [een] at ho hT
    refine ⟨_, rfl, wpAny_letOwnedTupleGo_items (s := { s with heap := h' }) ho fun h'' he' sb => ?_⟩
    have hT2 : h''.get? s.heap.objs.size = some { cls := .type "tuple", data := .seq #[en.key, en.val] } := (sb.2 _ (Nat.ne_of_gt hlt)).trans hT
    have new : ObjOk X.prog X.w (upd H s.heap.objs.size (.tup [.ref q, v])) h'' s.heap.objs.size (.tup [.ref q, v]) :=
      ⟨by show 2 ≤ sizeLine; decide, [en.key, en.val], .cons hkey (.cons hval .nil), ⟨_, hT2, rfl, _, rfl⟩⟩
    have I1 : Inv X pins σ (upd H s.heap.objs.size (.tup [.ref q, v])) { s with heap := h'' } :=
      I.turnedNew (t' := s.toks) (ch := [it]) (fun b ob hb e => (sb.2 b (by simpa using hb)).trans (hk b ob (by simpa using hb) e)) hf (Nat.le_refl _) new
    refine ⟨.ref s.heap.objs.size, _, I1, rfl, ⟨_, k, q, v, hkv, rfl, I.hok.fresh (Nat.le_refl _), rfl⟩, ⟨en.key, en.val, ?_⟩, fun b hb => ?_⟩
    · rw [← hsz]; exact he'
    · have e : b = it := by simpa using hb
      rw [e, upd_ne (Nat.ne_of_lt hlt)]
      exact (hf it (by simp)).1
  done := by
    intro X hP hw hK hc i pins s σ H E I hf st hg
    subst hP hw hK
    obtain ⟨hd, hi⟩ := hg
    obtain ⟨f0, f1, f2, f3, f4, f5⟩ := hf it (by simp)
    obtain ⟨hs, hgd, hx, es', ep', hdt, hsz, ent⟩ := frzN I hd
    obtain ⟨rfl, rfl⟩ := dict_ep hod hdt
    obtain ⟨ok, ov, he⟩ := st
    rw [← hsz] at he
    exact DT.endI (I.ok.hd hc) he ⟨_, hgd, hx, hdt⟩ (by omega) fun h' eb => ⟨rfl, I.turned (t' := s.toks) (fun b ob hb e => eb b ob hb e) f0 f1 f3 f4 f5⟩
  self := fun A i s Q E st h => let ⟨_, _, e⟩ := st; PySem.W.kcp_self e h
end
section
variable {X : Cx} {tg e : Expr} {td : TE} {apos cpos : Pos}
def iKeysN (w : World) (td : TE) : TI := fun σ H R => td σ H fun x H1 => ∃ d o xs, x = .ref d ∧ H1 d = some (.frz o (dN w d xs)) ∧ R (Itkn w d o xs) H1
def iItemsN (w : World) (td : TE) : TI := fun σ H R => td σ H fun x H1 => ∃ d o xs, x = .ref d ∧ H1 d = some (.frz o (dN w d xs)) ∧ R (Itin w d o xs) H1
theorem pi_keysN (he : PE X e td) : PI X tg e (iKeysN X.w td) := by
  refine ⟨fun pins s σ H R I h => ?_⟩
  refine thn (he.run pins s σ H _ I h) fun u s1 ⟨x, H1, I1, rx, d, o, xs, ex, hd, q⟩ => ?_
  subst ex
  obtain rfl : u = Value.ref d := rx
  obtain ⟨hs, hgd, hx, es, ep, hdt, hsz, ent⟩ := frzN I1 hd
  refine iter_keys hs hgd hx hdt (pi_one (tk := s1.toks) I1 _ (turn_keysN _ hdt) ⟨_, Heap.get?_push_size _ rfl, rfl, ?_⟩ q)
  rw [hsz] <;> rfl
theorem pi_itemsN {elts : List Expr} {kk : Nat} {tpos : Pos} (he : PE X e td) (hbase : attributeBase e "items" X.env (eval e X.env) = eval e X.env) (hline : (apos.endLine == cpos.line) = true) :
    PI X (.Tuple elts kk tpos) (.Call (.Attribute e "items" apos) [] [] cpos) (iItemsN X.w td) := by
  refine ⟨fun pins s σ H R I h => ?_⟩
  refine wpAny_Call_method (T := "dict") (id := "dict.items") hbase rfl hline F.plainAttrs_dict F.slot_dict_items F.type_dict_items (thn (he.run pins s σ H _ I h) fun u s1 ⟨x, H1, I1, rx, d, o, xs, ex, hd, q⟩ => ?_)
  subst ex
  obtain rfl : u = Value.ref d := rx
  obtain ⟨hs, hgd, hx, es, ep, hdt, hsz, ent⟩ := frzN I1 hd
  have raw : DT.Raw s1.heap d es ep := ⟨_, hgd, hx, hdt⟩
  refine ⟨raw.typeIs, fun a e => by cases e; exact ⟨_, hgd, hx.2.1⟩, ?_⟩
  have I2 : Inv X pins σ H1 { s1 with heap := s1.heap.push { cls := .type "dict_items", data := .fields #[.ref d] } } := I1.kept (t' := s1.toks) fun b ob q => Heap.get?_push_of_some _ q
  have fin : wpAny (model X.prog X.w) X.A (pyIter (.ref s1.heap.objs.size)) (PIE X pins σ (.Tuple elts kk tpos) R) X.xe { s1 with heap := s1.heap.push { cls := .type "dict_items", data := .fields #[.ref d] } } := by
    refine DT.iterI (es := es) (ep := ep) ⟨_, Heap.get?_push_size _ rfl, rfl, rfl⟩ (raw.push _) (pi_one (tk := s1.toks) I2 _ (turn_itemsN _ hdt) ⟨.none, .none, ?_⟩ q)
    rw [← hsz]
    exact Heap.get?_push_size _ rfl
  show wpAny _ _ (callWith cpos (.builtin "dict.items") [.ref d] [] []) _ X.xe s1
  exact method_meetsIn F.slot_dict_items F.entry_dict_items rfl (PySem.evalArgs_none ⟨rfl, raw.typeIs, F.args_dict_items_1 _, _, DT.meetsItems (es := es) (ep := ep) hs, raw, fin⟩)
end

/-! ### {k: v, ..} -/
section
variable {X : Cx} {pins : List (Addr × Obj)} {σ : L2.St} {H F : Hp} {s : Shared} {A : Around} {E : Value → Shared → Prop} {a : Addr} {xs : DX} {ds : List (D × D)} {k : D} {kv : V} {ku : Value}
theorem n_dset {Q : Unit → Shared → Prop} (hu : A.units + 65 < cLine) (I : Inv X pins σ H s) (fh : Sub F H) (e : H a = some (dN X.w a xs)) (r : RepM (X.K, X.w) F xs ds) (hk : isKey k = true) (rk : Rep (X.K, X.w) F kv k) (q : RelV kv ku) {v : V} {u : Value} (qv : RelV v u) (hl : xs.length < sizeLine)
    (h : ∀ b s', kv = .ref b → Inv X pins σ (upd H a (dN X.w a (putX xs k b v))) s' → Q () s') : wpAny (model X.prog X.w) A (dictSet a ku u) Q E s := by
  obtain ⟨b, rfl, rfl, hb⟩ := key_is I (rk.mono fh) hk q
  obtain ⟨h1, h2, vs, h3, h4, h5⟩ := dn_rd I (.inl e) (r.mono fh)
  have hz : vs.length ≤ sizeLine := by omega
  refine wpAny_dictSet_heap (knd := nk X.prog X.w) (hsz := hz) (show A.units + 64 < cLine by omega) hb h4 fun h' dd' hs => h b _ rfl ?_
  obtain ⟨o, es, ep, hq, e2, e3, e4, _, e5⟩ := dd'
  have hlen := putX_len xs k b v
  have pv := putV (k := k) (b := b) qv h3
  have nd : ((putX xs k b v).map (·.1)).Nodup := by
    rw [keysV pv]
    exact e5
  exact d_write I (by rw [e]; exact True.intro) hs ⟨o, hq⟩ ⟨⟨h1, by omega, o, es, ep, _, hq, e2, e3, pv, e4, nd⟩, ⟨o, hq⟩, phi_keeps⟩
/-- keys and values, and what they mean -/
abbrev PairsRep (K : KW) (F : Hp) : List (V × V) → List (D × D) → Prop := Paired fun p q => isKey q.1 = true ∧ Rep K F p.1 q.1 ∧ Rep K F p.2 q.2
def putsP (acc : List (D × D)) : List (D × D) → List (D × D)
  | [] => acc
  | p :: r => putsP (putD acc p.1 p.2) r
theorem n_stores {Q : PUnit → Shared → Prop} (hu : A.units + 65 < cLine) {p : Addr} (fp : F p = none) : ∀ {ps : List (V × V)} {kvs : List (D × D)} {us : List (Value × Value)}, PairsRep (X.K, X.w) F ps kvs → VV ps us →
    ∀ {H : Hp} {s : Shared} {xs : DX} {acc : List (D × D)}, Inv X pins σ H s → Sub F H → H p = some (dN X.w p xs) → RepM (X.K, X.w) F xs acc → xs.length + ps.length < sizeLine →
    (∀ xs' s', RepM (X.K, X.w) F xs' (putsP acc kvs) → Inv X pins σ (upd H p (dN X.w p xs')) s' → Q () s') → wpAny (model X.prog X.w) A (storeAll p us) Q E s
  | _, _, _, .nil, .nil, H, s, xs, acc, I, fh, e, r, hl, h => by
    unfold storeAll
    rw [List.forIn_nil]
    refine wpAny_pure (h xs s r ?_)
    have z : upd H p (dN X.w p xs) = H := by
      funext b
      unfold upd
      split
      · rename_i hb
        rw [hb, e]
      · rfl
    rw [z]
    exact I
  | (vk, vv) :: _, (dk, dd) :: _, (uk, uv) :: us, .cons ⟨k1, k2, k3⟩ t, .cons ⟨q1, q2⟩ tv, H, s, xs, acc, I, fh, e, r, hl, h => by
    unfold storeAll
    rw [List.forIn_cons]
    rw [List.length_cons] at hl
    refine wpAny_bind (wpAny_bind (n_dset hu I fh e r k1 k2 q1 q2 (by omega) fun b s' eb I' => wpAny_pure ?_))
    have fh' : ∀ o, Sub F (upd H p o) := fun o c u z => by
      rw [upd_ne (fun w => by rw [w, fp] at z; cases z)]
      exact fh c u z
    have hl' := putX_len xs dk b vv
    exact n_stores hu fp t tv I' (fh' _) upd_same (putX_ok k1 (eb ▸ k2) k3 r) (show (putX xs dk b vv).length + _ < sizeLine by omega) fun xs' s'' r' I'' => h xs' s'' r' (by rw [upd_upd] at I''; exact I'')
def tDispN (K : KW) (trs : List (TE × TE)) : TE := fun σ H Q => ∀ p, H p = none → tPairs trs σ (upd H p (dN K.2 p [])) fun ps H2 => H2 p = some (dN K.2 p []) ∧
  ∃ F kvs, Sub F H2 ∧ F p = none ∧ PairsRep K F ps kvs ∧ ps.length ≤ 15 ∧ ∀ xs, RepM K F xs (putsP [] kvs) → Q (.ref p) (upd H2 p (dN K.2 p xs))
theorem pe_dispN {pos : Pos} {keys : List (Option Expr)} {values : List Expr} {trs : List (TE × TE)} (hu : X.A.units + 65 < cLine) (h : PPs X pos keys values trs) (hall : keys.all (·.isSome) = true) (hl : keys.length = values.length) (h0 : keys ≠ [])
    (h15 : keys.length ≤ 15) : PE X (.Dict keys values pos) (tDispN (X.K, X.w) trs) := by
  refine ⟨fun pins s σ H Q I q => ?_⟩
  have hn := I.hok.fresh (Nat.le_refl s.heap.objs.size)
  have I1 := I.laid (a := s.heap.objs.size) (o := dN X.w s.heap.objs.size []) (h' := s.heap.push { cls := .type "dict", data := .dict #[] }) (t' := s.toks) (fun _ _ q => Heap.get?_push_of_some _ q) (Nat.le_refl _) (dn_empty s.heap I.big)
  refine wpAny_Dict_any hall hl h0 h15 (thn (h.run pins _ σ _ _ I1 (q _ hn)) fun ws s2 ⟨ps, H2, I2, rel, e, F, kvs, fh, fp, pr, lk, q2⟩ => ?_)
  refine n_stores hu fp pr rel I2 fh e .nil ?_ fun xs' s' r' I' => ⟨.ref s.heap.objs.size, _, I', rfl, q2 xs' r'⟩
  rw [List.length_nil, sizeLine_eq]
  omega
end
end Pe
end

section
set_option maxRecDepth 100000
/-! Pe7: operators on trees are the layer's operators. -/
namespace Pe
open PySem PySem.Spec PyProof.Rows L2

/-- what is wanted of a result -/
def Ret (K : KW) (T : At) (F H : Hp) (ρ : Rho) (σ : L2.St) (P : D → Src → Prop) (Q : VK) : Prop := ∀ d s, P d s → ∀ F' H' v, Rel K T F' H' ρ σ → Fin ⟨H, F⟩ F' H' → SrcOk K T F' H' ρ σ v d s → Q v H'
section
variable {K : KW} {T : At} {F H : Hp} {ρ : Rho} {σ : L2.St} {P : D → Src → Prop} {Q : VK}
theorem Ret.rep (ret : Ret K T F H ρ σ P Q) (rel : Rel K T F H ρ σ) {d : D} {v : V} (p : P d .im) (r : Rep K F v d) : Q v H := ret d .im p F H v rel rel.fin.refl r
theorem Ret.int (ret : Ret K T F H ρ σ P Q) (rel : Rel K T F H ρ σ) {i : Int} (p : P (.int i) .im) : Q (.int i) H := ret.rep rel p (.int i)
theorem Ret.bool (ret : Ret K T F H ρ σ P Q) (rel : Rel K T F H ρ σ) {i : Bool} (p : P (.bool i) .im) : Q (.bl i) H := ret.rep rel p (.bl i)
theorem Ret.str (ret : Ret K T F H ρ σ P Q) (rel : Rel K T F H ρ σ) {i : Str} (p : P (.str i) .im) : Q (.str i) H := ret.rep rel p (.str i)
theorem Ret.lst (ret : Ret K T F H ρ σ P Q) (rel : Rel K T F H ρ σ) {ds : List D} {xs : List V} (p : P (.list ds) .fr) (r : RepL K F xs ds) {a : Addr} (n : H a = none) : Q (.ref a) (upd H a (.lst xs)) :=
  have fn := Fin.new (o := .lst xs) rel.fin.fh n
  ret _ _ p F _ _ (rel.trans fn) fn ⟨a, rfl, rel.ours n, ⟨xs, upd_same, r⟩, rel.loose n⟩
theorem Ret.dct (ret : Ret K T F H ρ σ P Q) (rel : Rel K T F H ρ σ) {ds : List (D × D)} {xs : DX} {a : Addr} (p : P (.dict ds) .fr) (r : RepM K F xs ds) (n : H a = none) : Q (.ref a) (upd H a (dN K.2 a xs)) :=
  have fn := Fin.new (o := dN K.2 a xs) rel.fin.fh n
  ret _ _ p F _ _ (rel.trans fn) fn ⟨a, rfl, rel.ours n, ⟨xs, upd_same, r⟩, rel.loose n⟩
theorem Ret.tup (ret : Ret K T F H ρ σ P Q) (rel : Rel K T F H ρ σ) {ds : List D} {xs : List V} (p : P (.tuple ds) .im) (r : RepL K F xs ds) {a : Addr} (n : H a = none) : Q (.ref a) (upd H a (.tup xs)) :=
  have fn := Fin.newF (o := .tup xs) rel.fin.fh n
  ret _ _ p _ _ _ (rel.trans fn) fn (Rep.tup (.inl (.inl upd_same)) (r.mono fn.base))
theorem Top.seq {v : V} {ds : List D} (h : Top K F H v (.list ds) ∨ Top K F H v (.tuple ds)) (s : Sub F H) : ∃ a xs, v = .ref a ∧ (SqL K.1 H a xs ∨ SqT K.1 H a xs) ∧ RepL K F xs ds := by
  rcases h with h | h
  · obtain ⟨a, xs, e, h, r⟩ := h.list s
    exact ⟨a, xs, e, .inl (.inl h), r⟩
  · obtain ⟨a, xs, e, h, r⟩ := h.tup s
    exact ⟨a, xs, e, .inr (s.sqT h), r⟩
end

/-! ### arithmetic and + -/
def Bop.op : Bop → Operator
  | .add => .Add
  | .sub => .Sub
  | .mul => .Mult
  | .fdiv => .FloorDiv
  | .mod => .Mod
  | .pow => .Pow
def rBin (K : KW) : Bop → R2
  | .add => fun x y H Q => rI0 (fun i j => .int (i + j)) x y H Q ∨ (∃ i j, x = .str i ∧ y = .str j ∧ i.length + j.length ≤ sizeLine ∧ Q (.str (i ++ j)) H) ∨ rCatR x y H Q ∨ rCatN K.1 x y H Q
  | .sub => rI0 fun i j => .int (i - j)
  | .mul => fun x y H Q => rI mulOk (fun i j => .int (i * j)) x y H Q ∨ rRepR x y H Q
  | .fdiv => rI divOk fun i j => .int (i.fdiv j)
  | .mod => rI (fun _ j => j ≠ 0) fun i j => .int (i.fmod j)
  | .pow => rI powOk fun i j => .int (i ^ j.toNat)
theorem op_bin {X : Cx} {w : World} : ∀ o : Bop, OpR X (binaryOp o.op) (rBin (X.K, w) o)
  | .add => op_add.or (op_add_str.or (op_catR.or op_catN))
  | .sub => op_sub
  | .mul => OpR.or (opI fun _ _ _ _ _ _ _ hc q => mul_int q hc) op_repR
  | .fdiv => opI fun _ _ _ _ _ _ _ hc q => floordiv_int hc.1 q (.inl hc.2)
  | .mod => op_modN
  | .pow => op_pow
section
variable {K : KW} {T : At} {F H : Hp} {ρ : Rho} {σ : L2.St} {P : D → Src → Prop} {Q : VK} {x y : V} {a b : D}
theorem bin_ok {o : Bop} (rel : Rel K T F H ρ σ) (hx : Top K F H x a) (hy : Top K F H y b) (h : binR o a b P) (ret : Ret K T F H ρ σ P Q) : rBin K o x y H Q := by
  unfold binR at h
  split at h
  · exact .inl ⟨_, _, hx.int, hy.int, ret.int rel h⟩
  · exact ⟨_, _, hx.int, hy.int, ret.int rel h⟩
  · exact .inl ⟨_, _, hx.int, hy.int, h.1, ret.int rel h.2⟩
  · exact ⟨_, _, hx.int, hy.int, h.1, ret.int rel h.2⟩
  · exact ⟨_, _, hx.int, hy.int, h.1, ret.int rel h.2⟩
  · exact ⟨_, _, hx.int, hy.int, h.1, ret.int rel h.2⟩
  · exact .inr (.inl ⟨_, _, hx.str, hy.str, h.1, ret.str rel h.2⟩)
  · obtain ⟨p, xs, e1, h1, r1⟩ := hx.list rel.fin.fh
    obtain ⟨q, ys, e2, h2, r2⟩ := hy.list rel.fin.fh
    exact .inr (.inr (.inl ⟨p, q, xs, ys, e1, e2, h1, h2, by rw [r1.length, r2.length]; exact h.1, fun c n => ret.lst rel h.2 (r1.append r2) n⟩))
  · obtain ⟨p, xs, e1, h1, r1⟩ := hx.tup rel.fin.fh
    obtain ⟨q, ys, e2, h2, r2⟩ := hy.tup rel.fin.fh
    refine .inr (.inr (.inr ⟨p, q, xs, ys, e1, e2, rel.fin.fh.sqT h1, rel.fin.fh.sqT h2, by rw [r1.length, r2.length]; exact h.1, fun z => ?_, fun z => ?_, fun c n => ret.tup rel h.2 (r1.append r2) n⟩))
    · refine ret.rep rel h.2 (.tup h2 ?_)
      subst z
      cases r1
      exact r2
    · refine ret.rep rel h.2 (.tup h1 ?_)
      subst z
      cases r2
      rw [List.append_nil]
      exact r1
  · obtain ⟨p, xs, e1, h1, r1⟩ := hx.list rel.fin.fh
    obtain ⟨⟨z1, z2, z3⟩, h⟩ := h
    exact .inr ⟨p, _, xs, e1, hy.int, h1, by omega, by omega, by rw [r1.length]; exact z3, fun c n => ret.lst rel h (r1.rep _) n⟩
  · exact h.elim

/-! ### comparisons -/
def Cop.op : Cop → CmpOp
  | .eq => .Eq
  | .ne => .NotEq
  | .lt => .Lt
  | .le => .LtE
  | .gt => .Gt
  | .ge => .GtE
  | .isN => .Is
  | .notN => .IsNot
  | .mem => .In
  | .nmem => .NotIn
def rInD (K : KW) (neg : Bool) : R2 := fun x y H Q => ∃ a xs F ds k, y = .ref a ∧ Sub F H ∧ Rd H a (dN K.2 a xs) ∧ RepM K F xs ds ∧ isKey k = true ∧ Rep K H x k ∧ Q (.bl ((getD ds k).isSome ^^ neg)) H
def rInS (neg : Bool) : R2 := fun x y H Q => ∃ i j, x = .str i ∧ y = .str j ∧ Q (.bl (hasStr i j ^^ neg)) H
def rMem (K : KW) (neg : Bool) : R2 := fun x y H Q => rInN K neg x y H Q ∨ rInS neg x y H Q ∨ rInD K neg x y H Q
def rCmp (K : KW) : Cop → R2
  | .eq => rEqN K false
  | .ne => rEqN K true
  | .lt => rI0 fun i j => .bl (decide (i < j))
  | .le => rI0 fun i j => .bl (decide (i ≤ j))
  | .gt => rI0 fun i j => .bl (decide (j < i))
  | .ge => rI0 fun i j => .bl (decide (j ≤ i))
  | .isN => fun x y H Q => y = .non ∧ Q (.bl (decide (x = .non))) H
  | .notN => fun x y H Q => y = .non ∧ Q (.bl (!decide (x = .non))) H
  | .mem => rMem K false
  | .nmem => rMem K true
end
theorem op_inS {X : Cx} : OpR X (compareOp .In) (rInS false) := fun pins s σ H x y v u Q I rx ry ⟨i, j, e1, e2, q⟩ => op_in_str pins s σ H x y v u Q I rx ry ⟨i, j, e1, e2, by rw [Bool.xor_false] at q; exact q⟩
theorem op_notInS {X : Cx} : OpR X (compareOp .NotIn) (rInS true) := fun pins s σ H x y v u Q I rx ry ⟨i, j, e1, e2, q⟩ => op_notin_str pins s σ H x y v u Q I rx ry ⟨i, j, e1, e2, by rw [Bool.xor_true] at q; exact q⟩
theorem op_inD {X : Cx} (hu : X.A.units + 65 < cLine) : OpR X (compareOp .In) (rInD (X.K, X.w) false) := by
  intro pins s σ H x y v u Q I rx ry h
  obtain ⟨a, xs, F, ds, k, rfl, fh, e, r, hk, rk, q⟩ := h
  cases ry
  rw [Bool.xor_false] at q
  exact n_in hu I fh e r hk rk rx fun s' I' => ⟨.bl _, H, I', rfl, q⟩
theorem op_notInD {X : Cx} (hu : X.A.units + 65 < cLine) : OpR X (compareOp .NotIn) (rInD (X.K, X.w) true) := by
  intro pins s σ H x y v u Q I rx ry h
  obtain ⟨a, xs, F, ds, k, rfl, fh, e, r, hk, rk, q⟩ := h
  cases ry
  rw [Bool.xor_true] at q
  exact n_notIn hu I fh e r hk rk rx fun s' I' => ⟨.bl _, H, I', rfl, q⟩
theorem op_cmp {X : Cx} (hu : X.A.units + 65 < cLine) : ∀ o : Cop, OpR X (compareOp o.op) (rCmp (X.K, X.w) o)
  | .eq => op_eqN (by omega)
  | .ne => op_neN (by omega)
  | .lt => op_lt
  | .le => op_le
  | .gt => op_gt
  | .ge => op_ge
  | .isN => op_isN
  | .notN => op_notN
  | .mem => (op_inN hu).or (op_inS.or (op_inD hu))
  | .nmem => (op_notInN hu).or (op_notInS.or (op_notInD hu))
section
variable {K : KW} {T : At} {F H : Hp} {ρ : Rho} {σ : L2.St} {P : D → Src → Prop} {Q : VK} {x y : V} {a b : D}
theorem mem_ok {neg : Bool} (rel : Rel K T F H ρ σ) (hx : Top K F H x a) (hy : Top K F H y b) (h : memOf neg a b P) (ret : Ret K T F H ρ σ P Q) : rMem K neg x y H Q := by
  unfold memOf at h
  split at h
  · obtain ⟨q, ys, e2, h2, r2⟩ := hy.list rel.fin.fh
    exact .inl ⟨a, q, ys, _, e2, .inl (.inl h2), hx.rep rel.fin.fh, r2.mono rel.fin.fh, h.1, ret.bool rel h.2⟩
  · obtain ⟨q, ys, e2, h2, r2⟩ := hy.tup rel.fin.fh
    exact .inl ⟨a, q, ys, _, e2, .inr (rel.fin.fh.sqT h2), hx.rep rel.fin.fh, r2.mono rel.fin.fh, h.1, ret.bool rel h.2⟩
  · obtain ⟨s, e, h⟩ := h
    subst e
    exact .inr (.inl ⟨_, _, hx.str, hy.str, ret.bool rel h⟩)
  · obtain ⟨p, xs, e2, h2, r2⟩ := hy.dict rel.fin.fh
    exact .inr (.inr ⟨p, xs, F, _, a, e2, rel.fin.fh, h2, r2, h.1, hx.rep rel.fin.fh, ret.bool rel h.2⟩)
  · exact h.elim
theorem cmp_ok {o : Cop} (rel : Rel K T F H ρ σ) (hx : Top K F H x a) (hy : Top K F H y b) (h : cmpR o a b P) (ret : Ret K T F H ρ σ P Q) : rCmp K o x y H Q := by
  cases o with
  | eq => exact ⟨a, b, hx.rep rel.fin.fh, hy.rep rel.fin.fh, h.1, h.2.1, by rw [Bool.xor_false]; exact ret.bool rel h.2.2⟩
  | ne => exact ⟨a, b, hx.rep rel.fin.fh, hy.rep rel.fin.fh, h.1, h.2.1, by rw [Bool.xor_true]; exact ret.bool rel h.2.2⟩
  | lt =>
    obtain ⟨i, j, rfl, rfl, h⟩ := h
    exact ⟨i, j, hx.int, hy.int, ret.bool rel h⟩
  | le =>
    obtain ⟨i, j, rfl, rfl, h⟩ := h
    exact ⟨i, j, hx.int, hy.int, ret.bool rel h⟩
  | gt =>
    obtain ⟨i, j, rfl, rfl, h⟩ := h
    exact ⟨i, j, hx.int, hy.int, ret.bool rel h⟩
  | ge =>
    obtain ⟨i, j, rfl, rfl, h⟩ := h
    exact ⟨i, j, hx.int, hy.int, ret.bool rel h⟩
  | isN =>
    obtain ⟨rfl, h⟩ := h
    exact ⟨hy.non, by rw [hx.isN]; exact ret.bool rel h⟩
  | notN =>
    obtain ⟨rfl, h⟩ := h
    exact ⟨hy.non, by rw [hx.isN]; exact ret.bool rel h⟩
  | mem => exact mem_ok rel hx hy h ret
  | nmem => exact mem_ok rel hx hy h ret

/-! ### a[i] -/
def rIxD (K : KW) : R2 := fun x y H Q => ∃ a xs F ds k d, x = .ref a ∧ Sub F H ∧ Rd H a (dN K.2 a xs) ∧ RepM K F xs ds ∧ isKey k = true ∧ Rep K H y k ∧ getD ds k = some d ∧ ∀ v, Rep K F v d → Q v H
def rIxN (K : KW) : R2 := fun x y H Q => rIx K.1 x y H Q ∨ rIxD K x y H Q
theorem ix_ok (rel : Rel K T F H ρ σ) (hx : Top K F H x a) (hy : Top K F H y b) (h : ixR a b P) (ret : Ret K T F H ρ σ P Q) : rIxN K x y H Q := by
  have get : ∀ {xs : List V} {ds : List D} {j : Int} {d : D}, RepL K F xs ds → atI ds j = some d → ∃ v, atI xs j = some v ∧ Rep K F v d := fun {xs ds j d} r e => by
    unfold atI at e ⊢
    rw [r.length]
    obtain ⟨k, e1, e2⟩ := Option.bind_eq_some_iff.mp e
    obtain ⟨v, z1, z2⟩ := r.get e2
    exact ⟨v, by rw [e1]; exact z1, z2⟩
  unfold ixR at h
  split at h
  · obtain ⟨j, d, rfl, e, h⟩ := h
    obtain ⟨q, ys, e2, h2, r2⟩ := hx.list rel.fin.fh
    obtain ⟨v, z1, z2⟩ := get r2 e
    exact .inl (.inl ⟨q, ys, j, v, e2, hy.int, .inl h2, z1, ret.rep rel h z2⟩)
  · obtain ⟨j, d, rfl, e, h⟩ := h
    obtain ⟨q, ys, e2, h2, r2⟩ := hx.tup rel.fin.fh
    obtain ⟨v, z1, z2⟩ := get r2 e
    exact .inl (.inr (.inl ⟨q, ys, j, v, e2, hy.int, rel.fin.fh.sqT h2, z1, ret.rep rel h z2⟩))
  · obtain ⟨j, c, rfl, z, e, h⟩ := h
    exact .inl (.inr (.inr ⟨_, j, c, hx.str, hy.int, z, e, ret.str rel h⟩))
  · obtain ⟨k, d, e, h⟩ := h
    obtain ⟨p, xs, e2, h2, r2⟩ := hx.dict rel.fin.fh
    exact .inr ⟨p, xs, F, _, b, d, e2, rel.fin.fh, h2, r2, k, hy.rep rel.fin.fh, e, fun v r => ret.rep rel h r⟩
  · exact h.elim
/-! ### slices -/
def rSl (K : PySem.W.Frag) : V → Option Int → Option Int → Hp → VK → Prop := fun x lo hi H Q => rSlL K x lo hi H Q ∨ rSlN K x lo hi H Q
theorem cut_rep {xs : List V} {ds : List D} (r : RepL K F xs ds) (lo hi : Option Int) : RepL K F (cutV xs lo hi) (cutD ds lo hi) := by
  unfold cutV cutD
  rw [r.length]
  exact (r.drop _).take _
theorem sl_ok {lo hi : Option Int} (rel : Rel K T F H ρ σ) (hx : Top K F H x a) (h : slR a lo hi P) (ret : Ret K T F H ρ σ P Q) : rSl K.1 x lo hi H Q := by
  unfold slR at h
  split at h
  · obtain ⟨q, ys, e2, h2, r2⟩ := hx.list rel.fin.fh
    exact .inl ⟨q, ys, e2, .inl h2, fun p n => ret.lst rel h (cut_rep r2 lo hi) n⟩
  · obtain ⟨q, ys, e2, h2, r2⟩ := hx.tup rel.fin.fh
    refine .inr ⟨q, ys, e2, rel.fin.fh.sqT h2, fun z => ?_, fun p n => ret.tup rel h (cut_rep r2 lo hi) n⟩
    have r3 := cut_rep r2 lo hi
    rw [z] at r3
    exact ret.rep rel h (.tup h2 r3)
  · exact h.elim
theorem rv_ok (rel : Rel K T F H ρ σ) (hx : Top K F H x a) (h : rvR a P) (ret : Ret K T F H ρ σ P Q) : ∃ p xs, x = .ref p ∧ ((SqL K.1 H p xs ∧ ∀ q, H q = none → Q (.ref q) (upd H q (.lst xs.reverse))) ∨ (SqT K.1 H p xs ∧ ∀ q, H q = none → Q (.ref q) (upd H q (.tup xs.reverse)))) := by
  unfold rvR at h
  split at h
  · obtain ⟨q, ys, e2, h2, r2⟩ := hx.list rel.fin.fh
    exact ⟨q, ys, e2, .inl ⟨.inl h2, fun p n => ret.lst rel h r2.reverse n⟩⟩
  · obtain ⟨q, ys, e2, h2, r2⟩ := hx.tup rel.fin.fh
    exact ⟨q, ys, e2, .inr ⟨rel.fin.fh.sqT h2, fun p n => ret.tup rel h r2.reverse n⟩⟩
  · exact h.elim
end
theorem ix_dictN {X : Cx} (hu : X.A.units + 65 < cLine) : IxR X (rIxD (X.K, X.w)) := by
  intro value slice pins s σ H x y v u Q I rx ry h hs
  obtain ⟨a, xs, F, ds, k, d, rfl, fh, e, r, hk, rk, hd, q⟩ := h
  cases rx
  obtain ⟨_, _, vs, _, dd, _⟩ := dn_rd I e (r.mono fh)
  exact tail_any (ops := [.ref a, u]) dd.typeIs PySem.F.slot_dict_getitem.lookup (n_get hu I fh e r hk rk ry hd fun v w' s' I' rv rr => ⟨v, H, I', rv, q v rr⟩) hs
theorem ix_N {X : Cx} (hu : X.A.units + 65 < cLine) : IxR X (rIxN (X.K, X.w)) := ix_seq.or (ix_dictN hu)
theorem sl_N {X : Cx} : SlR X (rSl X.K) := sl_list.or sl_tupN
end Pe
end

section
set_option maxRecDepth 100000
/-! Pe8: built-ins; what is walked. -/
namespace Pe
open PySem PySem.Spec PyProof.Rows L2

/-! ### built-ins by values -/
def bltVal : Blt → Option (Bool × String)
  | .len => some (false, "len")
  | .abs => some (false, "abs")
  | .max2 => some (false, "max")
  | .min2 => some (false, "min")
  | .int => some (true, "int")
  | .str => some (true, "str")
  | .list => some (true, "list")
  | .tuple => some (true, "tuple")
  | .sorted => some (false, "sorted")
  | .any => some (false, "any")
  | .all => some (false, "all")
  | _ => none
def rBlt (K : PySem.W.Frag) : Blt → List V → Hp → VK → Prop
  | .len => fun xs H Q => (∃ p ys, xs = [.ref p] ∧ (SqL K H p ys ∨ SqT K H p ys) ∧ Q (.int ys.length) H) ∨ ∃ z, xs = [.str z] ∧ z.length ≤ sizeLine ∧ Q (.int z.length) H
  | .abs => fun xs H Q => ∃ i, xs = [.int i] ∧ Q (.int (if i < 0 then -i else i)) H
  | .max2 => fun xs H Q => ∃ i j, xs = [.int i, .int j] ∧ Q (.int (if j > i then j else i)) H
  | .min2 => fun xs H Q => ∃ i j, xs = [.int i, .int j] ∧ Q (.int (if j < i then j else i)) H
  | .int => fun xs H Q => (∃ i, xs = [.int i] ∧ Q (.int i) H) ∨ ∃ k, xs = [.bl k] ∧ Q (.int (if k then 1 else 0)) H
  | .str => fun xs H Q => ∃ i, xs = [.int i] ∧ i.natAbs.log2 < 1920 ∧ Q (.str (toString i)) H
  | .list => fun xs H Q => ∃ p ys, xs = [.ref p] ∧ (SqL K H p ys ∨ SqT K H p ys) ∧ ∀ l, H l = none → Q (.ref l) (upd H l (.lst ys))
  | .tuple => fun xs H Q => ∃ p ys, xs = [.ref p] ∧ ((SqL K H p ys ∧ ∀ l, H l = none → Q (.ref l) (upd H l (.tup ys))) ∨ (SqT K H p ys ∧ Q (.ref p) H))
  | .sorted => rSortedN K
  | .any => rAny K
  | .all => rAll K
  | _ => fun _ _ _ => False
theorem cr_blt {X : Cx} (hc : X.calm = true) : ∀ (b : Blt) (id : String), (bltVal b = some (false, id) → CallR X (.builtin id) (rBlt X.K b)) ∧ (bltVal b = some (true, id) → CallR X (.type id) (rBlt X.K b)) := by
  intro b id
  refine ⟨fun h => ?_, fun h => ?_⟩
  · cases b <;> cases h <;> first
      | exact call_len_seq.or call_len_str
      | exact call_abs
      | exact call_max2 hc
      | exact call_min2 hc
      | exact cr_sortedN
      | exact cr_any hc
      | exact cr_all hc
  · cases b <;> cases h <;> first
      | exact call_int1
      | exact call_str_int
      | exact call_list_of
      | exact call_tuple_of
section
variable {K : KW} {T : At} {F H : Hp} {ρ : Rho} {σ : L2.St} {P : D → Src → Prop} {Q : VK}
abbrev Tops (K : KW) (F H : Hp) : List V → List D → Prop := Paired (Top K F H)
theorem Tops.trans {F' H' : Hp} (y : Fin ⟨H, F⟩ F' H') : ∀ {vs : List V} {ds : List D}, Tops K F H vs ds → Tops K F' H' vs ds
  | _, _, .nil => .nil
  | _, _, .cons h t => .cons (h.trans y) (Tops.trans y t)
theorem bools_of : ∀ {xs : List V} {ds : List D} {bs : List Bool}, RepL K F xs ds → boolsOf ds = some bs → xs = bs.map V.bl
  | _, _, _, .nil, h => by
    cases h
    rfl
  | _, _, _, .cons (.bl b) r, h => by
    unfold boolsOf at h
    obtain ⟨bs, e1, e2⟩ := Option.map_eq_some_iff.mp h
    subst e2
    rw [bools_of r e1]
    rfl
  | _, _, _, .cons .non r, h => by cases h
  | _, _, _, .cons (.int _) r, h => by cases h
  | _, _, _, .cons (.str _) r, h => by cases h
  | _, _, _, .cons (.lst _ _) r, h => by cases h
  | _, _, _, .cons (.tup _ _) r, h => by cases h
  | _, _, _, .cons (.dN _ _) r, h => by cases h
theorem ints_of : ∀ {xs : List V} {ds : List D} {bs : List Int}, RepL K F xs ds → intsOf ds = some bs → xs = bs.map V.int
  | _, _, _, .nil, h => by
    cases h
    rfl
  | _, _, _, .cons (.int b) r, h => by
    unfold intsOf at h
    obtain ⟨bs, e1, e2⟩ := Option.map_eq_some_iff.mp h
    subst e2
    rw [ints_of r e1]
    rfl
  | _, _, _, .cons .non r, h => by cases h
  | _, _, _, .cons (.bl _) r, h => by cases h
  | _, _, _, .cons (.str _) r, h => by cases h
  | _, _, _, .cons (.lst _ _) r, h => by cases h
  | _, _, _, .cons (.tup _ _) r, h => by cases h
  | _, _, _, .cons (.dN _ _) r, h => by cases h
/-! sorting -/
theorem insI_perm (x : Int) : ∀ ys : List Int, (insI x ys).Perm (x :: ys)
  | [] => .refl _
  | y :: ys => by
    unfold insI
    split
    · exact .refl _
    · exact (List.Perm.cons y (insI_perm x ys)).trans (List.Perm.swap x y ys)
theorem sortI_perm : ∀ xs : List Int, (sortI xs).Perm xs
  | [] => .refl _
  | x :: xs => (insI_perm x (sortI xs)).trans (List.Perm.cons x (sortI_perm xs))
theorem insI_sorted (x : Int) : ∀ ys : List Int, ys.Pairwise (· ≤ ·) → (insI x ys).Pairwise (· ≤ ·)
  | [], _ => List.pairwise_singleton _ _
  | y :: ys, h => by
    unfold insI
    have h' := List.pairwise_cons.mp h
    split
    · rename_i hxy
      exact List.pairwise_cons.mpr ⟨fun z hz => by
        rcases List.mem_cons.mp hz with rfl | hz
        · exact hxy
        · exact Int.le_trans hxy (h'.1 z hz), h⟩
    · rename_i hxy
      refine List.pairwise_cons.mpr ⟨fun z hz => ?_, insI_sorted x ys h'.2⟩
      rcases List.mem_cons.mp ((insI_perm x ys).mem_iff.mp hz) with rfl | hz
      · omega
      · exact h'.1 z hz
theorem sortI_sorted : ∀ xs : List Int, (sortI xs).Pairwise (· ≤ ·)
  | [] => List.Pairwise.nil
  | x :: xs => insI_sorted x _ (sortI_sorted xs)
theorem sorted_one : ∀ {xs ys : List Int}, xs.Perm ys → xs.Pairwise (· ≤ ·) → ys.Pairwise (· ≤ ·) → xs = ys
  | [], ys, p, _, _ => (List.nil_perm.mp p).symm
  | x :: xs, [], p, _, _ => absurd p.symm (by simp)
  | x :: xs, y :: ys, p, h1, h2 => by
    have a := List.pairwise_cons.mp h1
    have b := List.pairwise_cons.mp h2
    have e : x = y := by
      have m1 : x ∈ y :: ys := p.mem_iff.mp List.mem_cons_self
      have m2 : y ∈ x :: xs := p.mem_iff.mpr List.mem_cons_self
      rcases List.mem_cons.mp m1 with e | m1
      · exact e
      · rcases List.mem_cons.mp m2 with e | m2
        · exact e.symm
        · exact Int.le_antisymm (a.1 y m2) (b.1 x m1)
    subst e
    rw [sorted_one (List.Perm.cons_inv p) a.2 b.2]
theorem blt_ok {b : Blt} {vs : List V} {ds : List D} (rel : Rel K T F H ρ σ) (t : Tops K F H vs ds) (h : bltR b ds P) (ret : Ret K T F H ρ σ P Q) : rBlt K.1 b vs H Q ∨ bltVal b = none := by
  have fh := rel.fin.fh
  unfold bltR at h
  split at h
  case h_1 =>
    cases t with | cons t1 t2 => ?_
    cases t2
    obtain ⟨q, ys, e2, h2, r2⟩ := t1.list fh
    exact .inl (.inl ⟨q, ys, by rw [e2], .inl (.inl h2), by rw [r2.length]; exact ret.int rel h⟩)
  case h_2 =>
    cases t with | cons t1 t2 => ?_
    cases t2
    obtain ⟨q, ys, e2, h2, r2⟩ := t1.tup fh
    exact .inl (.inl ⟨q, ys, by rw [e2], .inr (fh.sqT h2), by rw [r2.length]; exact ret.int rel h⟩)
  case h_3 =>
    cases t with | cons t1 t2 => ?_
    cases t2
    exact .inl (.inr ⟨_, by rw [t1.str], h.1, ret.int rel h.2⟩)
  case h_4 =>
    cases t with | cons t1 t2 => ?_
    cases t2
    exact .inl ⟨_, by rw [t1.int], ret.int rel h⟩
  case h_5 =>
    cases t with | cons t1 t2 => ?_
    cases t2 with | cons t2 t3 => ?_
    cases t3
    exact .inl ⟨_, _, by rw [t1.int, t2.int], ret.int rel h⟩
  case h_6 =>
    cases t with | cons t1 t2 => ?_
    cases t2 with | cons t2 t3 => ?_
    cases t3
    exact .inl ⟨_, _, by rw [t1.int, t2.int], ret.int rel h⟩
  case h_7 =>
    cases t with | cons t1 t2 => ?_
    cases t2
    exact .inl (.inr ⟨_, by rw [t1.bool], ret.int rel h⟩)
  case h_8 =>
    cases t with | cons t1 t2 => ?_
    cases t2
    exact .inl (.inl ⟨_, by rw [t1.int], ret.int rel h⟩)
  case h_9 =>
    cases t with | cons t1 t2 => ?_
    cases t2
    exact .inl ⟨_, by rw [t1.int], h.1, ret.str rel h.2⟩
  case h_10 =>
    cases t with | cons t1 t2 => ?_
    cases t2
    obtain ⟨q, ys, e2, h2, r2⟩ := t1.list fh
    exact .inl ⟨q, ys, by rw [e2], .inl (.inl h2), fun p n => ret.lst rel h r2 n⟩
  case h_11 =>
    cases t with | cons t1 t2 => ?_
    cases t2
    obtain ⟨q, ys, e2, h2, r2⟩ := t1.tup fh
    exact .inl ⟨q, ys, by rw [e2], .inr (fh.sqT h2), fun p n => ret.lst rel h r2 n⟩
  case h_12 =>
    cases t with | cons t1 t2 => ?_
    cases t2
    obtain ⟨q, ys, e2, h2, r2⟩ := t1.list fh
    exact .inl ⟨q, ys, by rw [e2], .inl ⟨.inl h2, fun p n => ret.tup rel h r2 n⟩⟩
  case h_13 =>
    cases t with | cons t1 t2 => ?_
    cases t2
    obtain ⟨q, ys, e2, h2, r2⟩ := t1.tup fh
    exact .inl ⟨q, ys, by rw [e2], .inr ⟨fh.sqT h2, ret.rep rel h (.tup h2 r2)⟩⟩
  case h_14 =>
    cases t with | cons t1 t2 => ?_
    cases t2
    obtain ⟨bs, e, h⟩ := h
    obtain ⟨q, ys, e2, h2, r2⟩ := t1.list fh
    have z := bools_of r2 e
    subst z
    exact .inl ⟨q, bs, by rw [e2], .inl h2, ret.bool rel h⟩
  case h_15 =>
    cases t with | cons t1 t2 => ?_
    cases t2
    obtain ⟨bs, e, h⟩ := h
    obtain ⟨q, ys, e2, h2, r2⟩ := t1.list fh
    have z := bools_of r2 e
    subst z
    exact .inl ⟨q, bs, by rw [e2], .inl h2, ret.bool rel h⟩
  case h_16 =>
    cases t with | cons t1 t2 => ?_
    cases t2
    obtain ⟨ns, e, hl, h⟩ := h
    obtain ⟨q, ys, e2, h2, r2⟩ := t1.list fh
    have z := ints_of r2 e
    subst z
    refine .inl ⟨q, ns, by rw [e2], .inl (.inl h2), hl, fun ns' p hp hs n => ?_⟩
    have z := sorted_one (hp.trans (sortI_perm ns).symm) hs (sortI_sorted ns)
    subst z
    exact ret.lst rel h (RepL.of_ints _) n
  case h_17 =>
    cases t with | cons t1 t2 => ?_
    cases t2
    obtain ⟨ns, e, hl, h⟩ := h
    obtain ⟨q, ys, e2, h2, r2⟩ := t1.tup fh
    have z := ints_of r2 e
    subst z
    refine .inl ⟨q, ns, by rw [e2], .inr (fh.sqT h2), hl, fun ns' p hp hs n => ?_⟩
    have z := sorted_one (hp.trans (sortI_perm ns).symm) hs (sortI_sorted ns)
    subst z
    exact ret.lst rel h (RepL.of_ints _) n
  case h_18 => exact .inr rfl
  case h_19 => exact .inr rfl
  case h_20 => exact h.elim
end

/-! ### what is walked -/
structure Gives (K : KW) (J : It) (ds : List D) (S : Hp → Prop) : Prop where
  mono : ∀ F F', Sub F F' → S F → S F'
  go : ∀ i F H, S F → Sub F H → i < ds.length → J.go i H
  yld : ∀ i F H x H' d, S F → Sub F H → ds[i]? = some d → J.yld i H x H' → ∃ F', Fin ⟨H, F⟩ F' H' ∧ Rep K F' x d
  stop : ∀ i F H, S F → Sub F H → ds.length ≤ i → J.stop i H
section
variable {K : KW} {F H : Hp}
theorem rd_inj {a : Addr} {xs ys : List V} (h : Rd H a (.lst xs)) (h' : Rd H a (.lst ys)) : xs = ys := by
  rcases h with h | ⟨o, h⟩ <;> rcases h' with h' | ⟨o', h'⟩ <;> rw [h] at h' <;> cases h' <;> rfl
theorem gives_list {a : Addr} {xs : List V} {ds : List D} : Gives K (Itl K.1 a) ds (fun F => Rd F a (.lst xs) ∧ RepL K F xs ds) where
  mono := fun F F' s h => ⟨s.rd h.1, h.2.mono s⟩
  go := fun i F H h s hi => by
    have hi' : i < xs.length := by rw [h.2.length]; exact hi
    exact ⟨xs, xs[i], .inl (s.rd h.1), List.getElem?_eq_getElem hi'⟩
  yld := fun i F H x H' d h s hd ⟨e, y⟩ => by
    subst e
    obtain ⟨v, h1, h2⟩ := h.2.get hd
    have z := y xs (.inl (s.rd h.1))
    rw [h1] at z
    cases z
    exact ⟨F, Fin.start H' F s, h2⟩
  stop := fun i F H h s hi => ⟨xs, .inl (s.rd h.1), by rw [h.2.length]; exact hi⟩
theorem gives_tup {a : Addr} {xs : List V} {ds : List D} : Gives K (Itt K.1 a) ds (fun F => SqT K.1 F a xs ∧ RepL K F xs ds) where
  mono := fun F F' s h => ⟨s.sqT h.1, h.2.mono s⟩
  go := fun i F H h s hi => by
    have hi' : i < xs.length := by rw [h.2.length]; exact hi
    exact ⟨xs, xs[i], s.sqT h.1, List.getElem?_eq_getElem hi'⟩
  yld := fun i F H x H' d h s hd ⟨e, y⟩ => by
    subst e
    obtain ⟨v, h1, h2⟩ := h.2.get hd
    have z := y xs (s.sqT h.1)
    rw [h1] at z
    cases z
    exact ⟨F, Fin.start H' F s, h2⟩
  stop := fun i F H h s hi => ⟨xs, s.sqT h.1, by rw [h.2.length]; exact hi⟩
theorem gives_str {z : Str} : Gives K (Its z) (strsOf z) (fun _ => True) where
  mono := fun _ _ _ h => h
  go := fun i F H h s hi => by
    unfold strsOf at hi
    rw [List.length_map, Array.length_toList] at hi
    exact hi
  yld := fun i F H x H' d h s hd ⟨e, c, hc, ex⟩ => by
    subst e ex
    unfold strsOf at hd
    rw [List.getElem?_map, Array.getElem?_toList, hc] at hd
    cases hd
    exact ⟨F, Fin.start H' F s, .str _⟩
  stop := fun i F H h s hi => by
    unfold strsOf at hi
    rw [List.length_map, Array.length_toList] at hi
    exact hi
theorem rgD_get {n i : Nat} {lo : Int} {d : D} (h : (rgD n lo)[i]? = some d) : d = .int (lo + i) := by
  unfold rgD at h
  rw [List.getElem?_map] at h
  obtain ⟨j, h1, h2⟩ := Option.map_eq_some_iff.mp h
  rw [List.getElem?_range] at h1
  · cases h1
    exact h2.symm
  · have z := (List.getElem?_eq_some_iff.mp h1).1
    rw [List.length_range] at z
    exact z
theorem gives_range {n : Nat} {lo : Int} : Gives K (Itr lo n) (rgD n lo) (fun _ => True) where
  mono := fun _ _ _ h => h
  go := fun i F H h s hi => by
    unfold rgD at hi
    rw [List.length_map, List.length_range] at hi
    exact hi
  yld := fun i F H x H' d h s hd ⟨e, ex⟩ => by
    subst e ex
    rw [rgD_get hd]
    exact ⟨F, Fin.start H' F s, .int _⟩
  stop := fun i F H h s hi => by
    unfold rgD at hi
    rw [List.length_map, List.length_range] at hi
    exact hi
theorem downD_get {n i : Nat} {lo : Int} {d : D} (h : (downD n lo)[i]? = some d) : d = .int (lo - i) := by
  unfold downD at h
  rw [List.getElem?_map] at h
  obtain ⟨j, h1, h2⟩ := Option.map_eq_some_iff.mp h
  rw [List.getElem?_range] at h1
  · cases h1
    exact h2.symm
  · have z := (List.getElem?_eq_some_iff.mp h1).1
    rw [List.length_range] at z
    exact z
theorem gives_down {n : Nat} {lo : Int} : Gives K (Itc lo (-1) n) (downD n lo) (fun _ => True) where
  mono := fun _ _ _ h => h
  go := fun i F H h s hi => by
    unfold downD at hi
    rw [List.length_map, List.length_range] at hi
    exact hi
  yld := fun i F H x H' d h s hd ⟨e, ex⟩ => by
    subst e ex
    rw [downD_get hd]
    refine ⟨F, Fin.start H' F s, ?_⟩
    have z : lo + (i : Nat) * (-1 : Int) = lo - (i : Nat) := by omega
    rw [z]
    exact .int _
  stop := fun i F H h s hi => by
    unfold downD at hi
    rw [List.length_map, List.length_range] at hi
    exact hi
theorem repM_get : ∀ {xs : DX} {ds : List (D × D)}, RepM K F xs ds → ∀ {i : Nat} {k : D} {q : Addr} {v : V}, xs[i]? = some (k, q, v) → ∃ d, ds[i]? = some (k, d) ∧ Rep K F (.ref q) k ∧ Rep K F v d
  | _, _, .nil, _, _, _, _, e => by simp at e
  | _, _, .cons k1 k2 k3 k4, 0, k, q, v, e => by
    simp at e
    obtain ⟨rfl, rfl, rfl⟩ := e
    exact ⟨_, rfl, k2, k3⟩
  | _, _, .cons k1 k2 k3 k4, i + 1, k, q, v, e => by
    obtain ⟨d, h1, h2⟩ := repM_get k4 (i := i) (by simpa using e)
    exact ⟨d, by simpa using h1, h2⟩
theorem gives_keys {p : Addr} {o : Obj} {xs : DX} {ds : List (D × D)} : Gives K (Itkn K.2 p o xs) (ds.map (·.1)) (fun F => F p = some (.frz o (dN K.2 p xs)) ∧ RepM K F xs ds) where
  mono := fun F F' s h => ⟨s.frz h.1, h.2.mono s⟩
  go := fun i F H h s hi => ⟨s.frz h.1, by rw [List.length_map] at hi; rw [h.2.length]; exact hi⟩
  yld := fun i F H x H' d h s hd ⟨e, k, q, v, hx, ex⟩ => by
    subst e ex
    obtain ⟨d', h1, h2, h3⟩ := repM_get h.2 hx
    rw [List.getElem?_map, h1] at hd
    cases hd
    exact ⟨F, Fin.start H' F s, h2⟩
  stop := fun i F H h s hi => ⟨s.frz h.1, by rw [List.length_map] at hi; rw [h.2.length]; exact hi⟩
theorem gives_items {p : Addr} {o : Obj} {xs : DX} {ds : List (D × D)} : Gives K (Itin K.2 p o xs) (ds.map fun p => .tuple [p.1, p.2]) (fun F => F p = some (.frz o (dN K.2 p xs)) ∧ RepM K F xs ds) where
  mono := fun F F' s h => ⟨s.frz h.1, h.2.mono s⟩
  go := fun i F H h s hi => ⟨s.frz h.1, by rw [List.length_map] at hi; rw [h.2.length]; exact hi⟩
  yld := fun i F H x H' d h s hd ⟨t, k, q, v, hx, ex, hn, eH⟩ => by
    subst ex eH
    obtain ⟨d', h1, h2, h3⟩ := repM_get h.2 hx
    rw [List.getElem?_map, h1] at hd
    cases hd
    have fn := Fin.newF (o := .tup [.ref q, v]) s hn
    exact ⟨_, fn, .tup (.inl (.inl upd_same)) (.cons (h2.mono fn.base) (.cons (h3.mono fn.base) .nil))⟩
  stop := fun i F H h s hi => ⟨s.frz h.1, by rw [List.length_map] at hi; rw [h.2.length]; exact hi⟩
end
/-- e walked: a list, a tuple, a text -/
def iSeq (K : KW) (te : TE) : TI := fun σ H R => te σ H fun x H1 => (∃ a xs, x = .ref a ∧ SqL K.1 H1 a xs ∧ R (Itl K.1 a) H1) ∨ (∃ a xs, x = .ref a ∧ SqT K.1 H1 a xs ∧ R (Itt K.1 a) H1) ∨ ∃ z, x = .str z ∧ R (Its z) H1
theorem pi_seq {X : Cx} {w : World} {tg l : Expr} {tl : TE} (hl : PE X l tl) : PI X tg l (iSeq (X.K, w) tl) := by
  refine ⟨fun pins s σ H R I h => ?_⟩
  refine thn (hl.run pins s σ H _ I h) fun v s1 ⟨x, H1, I1, r1, q1⟩ => ?_
  rcases q1 with ⟨a, xs, e, hq, q⟩ | ⟨a, xs, e, hq, q⟩ | ⟨z, e, q⟩
  · subst e
    cases r1
    obtain ⟨its, rv, p, hz⟩ := I1.list hq
    refine wpAny_pyIter_list p.isList ?_
    refine ⟨s1.heap.objs.size, [s1.heap.objs.size], _, _, H1, rfl, I1.kept (t' := s1.toks) fun b o e => Heap.get?_push_of_some _ e, turn_list a _, ⟨_, Heap.get?_push_size _ rfl, rfl, rfl⟩, fun b hb => ?_, q⟩
    have e : b = s1.heap.objs.size := by simpa using hb
    subst e
    exact I1.fpOk (Nat.le_refl _) (I1.hok.fresh (Nat.le_refl _))
  · subst e
    cases r1
    obtain ⟨its, rv, p, hz⟩ := I1.tuple hq
    refine wpAny_pyIter_tuple (show s1.heap.IsTuple a its.toArray from p) ?_
    refine ⟨s1.heap.objs.size, [s1.heap.objs.size], _, _, H1, rfl, I1.kept (t' := s1.toks) fun b o e => Heap.get?_push_of_some _ e, turn_tuple a _, ⟨_, Heap.get?_push_size _ rfl, rfl, rfl⟩, fun b hb => ?_, q⟩
    have e : b = s1.heap.objs.size := by simpa using hb
    subst e
    exact I1.fpOk (Nat.le_refl _) (I1.hok.fresh (Nat.le_refl _))
  · subst e
    obtain ⟨t, rfl⟩ := r1
    cases ha : z.cps.all (· < 128)
    · exact wpAny_pyIter_wide ha (pi_one (tk := s1.toks) I1 _ (turn_str _ z t "str_iterator" (.inr rfl)) ⟨_, Heap.get?_push_size _ rfl, rfl, rfl⟩ q)
    · exact wpAny_pyIter_ascii ha (pi_one (tk := s1.toks) I1 _ (turn_str _ z t "str_ascii_iterator" (.inl rfl)) ⟨_, Heap.get?_push_size _ rfl, rfl, rfl⟩ q)
end Pe
end

section
set_option maxRecDepth 100000
/-! Pe9: expressions of the small language and expressions of the program: what the one means the other does. -/
namespace Pe
open PySem PySem.Spec PyProof.Rows L2

/-- constants, calls, exceptions -/
structure Mean where
  G : Nat → D
  Γ : Nat → List D → Res → Prop
  xE : Nat → Hp → Prop
def Kn (K : KW) (T : At) (F H : Hp) (σ : L2.St) (Qp : D → Src → Rho → Prop) (Q : VK) : Prop :=
  ∀ d s ρ', Qp d s ρ' → ∀ F' H' v, Rel K T F' H' ρ' σ → Sub F F' → Sub H H' → SrcOk K T F' H' ρ' σ v d s → Q v H'
def XOk (M : Mean) (T : At) (Xp : Nat → Prop) : Prop := ∀ c, Xp c → ∀ H', Sub T.H0 H' → M.xE c H'
def rdE (K : KW) (M : Mean) (r : CE) : TE := fun σ H Q => ∃ T F ρ Xp Qp, Rel K T F H ρ σ ∧ wpE M.G M.Γ Xp r ρ Qp ∧ Kn K T F H σ Qp Q ∧ XOk M T Xp
def rdT (K : KW) (M : Mean) (r : CE) : TT := fun σ H Q => ∃ T F ρ Xp Qp, Rel K T F H ρ σ ∧ wpE M.G M.Γ Xp r ρ Qp ∧
  (∀ d s ρ', Qp d s ρ' → ∃ b, d = .bool b ∧ ∀ F' H', Rel K T F' H' ρ' σ → Sub F F' → Sub H H' → Q b H') ∧ XOk M T Xp
def rdA (K : KW) (M : Mean) (es : CEs) : TA := fun σ H Q => ∃ T F ρ Xp Qp, Rel K T F H ρ σ ∧ wpA M.G M.Γ Xp es ρ Qp ∧
  (∀ ds ρ', Qp ds ρ' → ∀ F' H' vs, Rel K T F' H' ρ' σ → Sub F F' → Sub H H' → RepL K F' vs ds → Q vs H') ∧ XOk M T Xp
def rdR (K : KW) (M : Mean) (es : CEs) : TA := fun σ H Q => ∃ T F ρ Xp Qp, Rel K T F H ρ σ ∧ wpR M.G M.Γ Xp es ρ Qp ∧
  (∀ ds ρ', Qp ds ρ' → ∀ F' H' vs, Rel K T F' H' ρ' σ → Sub F F' → Sub H H' → Tops K F' H' vs ds → Q vs H') ∧ XOk M T Xp

theorem PE.imp {X : Cx} {e : Expr} {t t' : TE} (h : PE X e t) (i : ∀ σ H Q, t' σ H Q → t σ H Q) : PE X e t' := ⟨fun pins s σ H Q I w => h.run pins s σ H Q I (i _ _ _ w)⟩
theorem PT.imp {X : Cx} {e : Expr} {t t' : TT} (h : PT X e t) (i : ∀ σ H Q, t' σ H Q → t σ H Q) : PT X e t' := ⟨fun pins s σ H Q I w => h.run pins s σ H Q I (i _ _ _ w)⟩
theorem PW.imp {X : Cx} {e : Expr} {t t' : TT} (h : PW X e t) (i : ∀ σ H Q, t' σ H Q → t σ H Q) : PW X e t' := ⟨fun wh pins s σ H Q I w => h.run wh pins s σ H Q I (i _ _ _ w)⟩
theorem PA.imp {X : Cx} {e : List Expr} {t t' : TA} (h : PA X e t) (i : ∀ σ H Q, t' σ H Q → t σ H Q) : PA X e t' := ⟨fun pos pins s σ H Q I w => h.run pos pins s σ H Q I (i _ _ _ w)⟩

section
variable {K : KW} {T : At} {F F2 F3 H H2 H3 : Hp} {σ : L2.St} {ρ2 : Rho} {Qp : D → Src → Rho → Prop} {Q : VK}
theorem Kn.ret (kn : Kn K T F H σ Qp Q) (f : Sub F F2) (h : Sub H H2) : Ret K T F2 H2 ρ2 σ (fun d s => Qp d s ρ2) Q := fun d s p F' H' v rel fin ok => kn d s ρ2 p F' H' v rel (f.trans fin.base) (h.trans fin.sub) ok
theorem Kn.grow (kn : Kn K T F H σ Qp Q) (f : Sub F F2) (h : Sub H H2) : Kn K T F2 H2 σ Qp Q := fun d s ρ' p F' H' v rel f2 h2 ok => kn d s ρ' p F' H' v rel (f.trans f2) (h.trans h2) ok
theorem Tops.grow (f : Sub F F2) (h : Sub H H2) : ∀ {vs : List V} {ds : List D}, Tops K F H vs ds → Tops K F2 H2 vs ds
  | _, _, .nil => .nil
  | _, _, .cons a t => .cons (a.grow f h) (Tops.grow f h t)
end

/-! ### what text is plain -/
def notStar : Expr → Bool
  | .Starred .. => false
  | _ => true
theorem star_cons {e : Expr} (h : notStar e = true) (es : List Expr) (env : Env) : starEach (e :: es) env = (false, eval e env) :: starEach es env := by
  cases e <;> first | rfl | cases h
theorem star_all : ∀ {es : List Expr}, es.all notStar = true → ∀ (env : Env) (pos : Pos), (backTo pos (starEach es env)).any (·.1) = false
  | [], _, _, _ => rfl
  | e :: es, h, env, pos => by
    rw [List.all_cons, Bool.and_eq_true] at h
    rw [star_cons h.1]
    show (false || (backTo pos (starEach es env)).any (·.1)) = false
    rw [star_all h.2, Bool.false_or]
theorem star_few : ∀ {es : List Expr}, es.all notStar = true → ∀ (env : Env) (pos : Pos), ((backTo pos (starEach es env)).all fun x => !x.1) = true
  | [], _, _, _ => rfl
  | e :: es, h, env, pos => by
    rw [List.all_cons, Bool.and_eq_true] at h
    rw [star_cons h.1]
    show (true && (backTo pos (starEach es env)).all fun x => !x.1) = true
    rw [star_few h.2, Bool.true_and]
def notSlice : Expr → Bool
  | .Slice .. => false
  | _ => true
theorem plain_ix {b : Expr} (h : notSlice b = true) : PlainIx b := fun o i => by
  cases b <;> first | rfl | cases h
/-- its truth is its value's -/
def plainT : Expr → Bool
  | .UnaryOp .Not .. => false
  | .BoolOp .. => false
  | .IfExp .. => false
  | .Compare .. => false
  | _ => true
theorem plain_true {e : Expr} (h : plainT e = true) (env : Env) (whole : Sem Value) : isTrue e env whole = (do let v ← whole; standAt e.pos; holding [v] (truthy v)) := by
  cases e with
  | UnaryOp op x p =>
    cases op <;> first | rfl | cases h
  | _ => first | rfl | cases h
def notComp : Expr → Bool
  | .ListComp .. => false
  | .SetComp .. => false
  | .DictComp .. => false
  | _ => true
theorem no_swap {e : Expr} (h : notComp e = true) (t : Option Expr) (l : Nat) (env : Env) : swapsWith e t l env = pure false := by
  cases e <;> first | rfl | cases h
def notSet : Expr → Bool
  | .Set .. => false
  | _ => true
theorem not_marked {b : Expr} (h : notSet b = true) (op : CmpOp) : behindInMarks op b = false := by
  cases b <;> first | rfl | cases h
theorem not_folded {b : Expr} (h : notSet b = true) (env : Env) (x : Value) : foldedSetIterable b env x = pure x := by
  cases b <;> first | rfl | cases h
def isName : Expr → Bool
  | .Name .. => true
  | _ => false
theorem base_name {e : Expr} (h : isName e = true) (attr : Str) (env : Env) (whole : Sem Value) : attributeBase e attr env whole = whole := by
  cases e <;> first | rfl | cases h

/-! ### rules -/
section
variable {X : Cx} {M : Mean} {a b c e : Expr} {ra rb rc : CE} {es : List Expr} {res : CEs} {pos : Pos}

theorem e_bin {o : Bop} (ha : PE X a (rdE ((X.K, X.w) : KW) M ra)) (hb : PE X b (rdE ((X.K, X.w) : KW) M rb)) : PE X (.BinOp a o.op b pos) (rdE ((X.K, X.w) : KW) M (.bin o ra rb)) :=
  PE.imp (pe_op (op_bin o) ha hb) fun σ H Q ⟨T, F, ρ, Xp, Qp, rel, w, kn, xo⟩ => by
    rw [wpE] at w
    exact ⟨T, F, ρ, Xp, _, rel, w, fun x s ρ1 w1 F1 H1 v rel1 f1 h1 ok1 => ⟨T, F1, ρ1, Xp, _, rel1, w1, fun y s2 ρ2 w2 F2 H2 u rel2 f2 h2 ok2 =>
      bin_ok rel2 ((ok1.top rel1).grow f2 h2) (ok2.top rel2) w2 (kn.ret (f1.trans f2) (h1.trans h2)), xo⟩, xo⟩
theorem e_neg (ha : PE X a (rdE ((X.K, X.w) : KW) M ra)) : PE X (.UnaryOp .USub a pos) (rdE ((X.K, X.w) : KW) M (.neg ra)) :=
  PE.imp (pe_un un_neg ha) fun σ H Q ⟨T, F, ρ, Xp, Qp, rel, w, kn, xo⟩ => by
    rw [wpE] at w
    refine ⟨T, F, ρ, Xp, _, rel, w, fun x s ρ1 w1 F1 H1 v rel1 f1 h1 ok1 => ?_, xo⟩
    obtain ⟨i, rfl, q⟩ := w1
    exact ⟨i, (ok1.top rel1).int, (kn.ret f1 h1).int rel1 q⟩
theorem cmp_core {o : Cop} : ∀ σ H Q, rdE ((X.K, X.w) : KW) M (.cmp o ra rb) σ H Q → tOp (rCmp ((X.K, X.w) : KW) o) (rdE ((X.K, X.w) : KW) M ra) (rdE ((X.K, X.w) : KW) M rb) σ H Q := fun σ H Q ⟨T, F, ρ, Xp, Qp, rel, w, kn, xo⟩ => by
    rw [wpE] at w
    exact ⟨T, F, ρ, Xp, _, rel, w, fun x s ρ1 w1 F1 H1 v rel1 f1 h1 ok1 => ⟨T, F1, ρ1, Xp, _, rel1, w1, fun y s2 ρ2 w2 F2 H2 u rel2 f2 h2 ok2 =>
      cmp_ok rel2 ((ok1.top rel1).grow f2 h2) (ok2.top rel2) w2 (kn.ret (f1.trans f2) (h1.trans h2)), xo⟩, xo⟩
/-- a test by the value -/
theorem rdT_E {r : CE} : ∀ σ H Q, rdT ((X.K, X.w) : KW) M r σ H Q → rdE ((X.K, X.w) : KW) M r σ H (fun v H' => ∃ b, v = .bl b ∧ Q b H') := fun σ H Q ⟨T, F, ρ, Xp, Qp, rel, w, kn, xo⟩ =>
  ⟨T, F, ρ, Xp, Qp, rel, w, fun d s ρ' p F' H' v rel' f h ok => by
    obtain ⟨b, rfl, k⟩ := kn d s ρ' p
    exact ⟨b, (ok.top rel').bool, k F' H' rel' f h⟩, xo⟩
theorem e_cmp {o : Cop} (hu : X.A.units + 65 < cLine) (ha : PE X a (rdE ((X.K, X.w) : KW) M ra)) (hb : PE X b (rdE ((X.K, X.w) : KW) M rb)) (hs : notSet b = true) : PE X (.Compare a [o.op] [b] pos) (rdE ((X.K, X.w) : KW) M (.cmp o ra rb)) :=
  PE.imp (pe_cmpR (op_cmp hu o) ha hb (not_marked hs _)) cmp_core
theorem t_cmp {o : Cop} (hu : X.A.units + 65 < cLine) (ha : PE X a (rdE ((X.K, X.w) : KW) M ra)) (hb : PE X b (rdE ((X.K, X.w) : KW) M rb)) (hs : notSet b = true) : PT X (.Compare a [o.op] [b] pos) (rdT ((X.K, X.w) : KW) M (.cmp o ra rb)) :=
  PT.imp (pt_cmpR (op_cmp hu o) ha hb (not_marked hs _)) fun σ H Q h => cmp_core _ _ _ (rdT_E _ _ _ h)
theorem chain_core {o p : Cop} : ∀ σ H Q, rdE ((X.K, X.w) : KW) M (.chain o p ra rb rc) σ H Q → tChain (rCmp ((X.K, X.w) : KW) o) (rCmp ((X.K, X.w) : KW) p) (rdE ((X.K, X.w) : KW) M ra) (rdE ((X.K, X.w) : KW) M rb) (rdE ((X.K, X.w) : KW) M rc) σ H Q := fun σ H Q ⟨T, F, ρ, Xp, Qp, rel, w, kn, xo⟩ => by
    rw [wpE] at w
    refine ⟨T, F, ρ, Xp, _, rel, w, fun x s ρ1 w1 F1 H1 v rel1 f1 h1 ok1 => ⟨T, F1, ρ1, Xp, _, rel1, w1, fun y s2 ρ2 w2 F2 H2 u rel2 f2 h2 ok2 => ?_, xo⟩, xo⟩
    refine cmp_ok rel2 ((ok1.top rel1).grow f2 h2) (ok2.top rel2) w2 fun d sd ⟨t, ed, w3⟩ F3 H3 v3 rel3 fin3 ok3 => ?_
    subst ed
    refine ⟨t, (ok3.top rel3).bool, ?_⟩
    have f3 := fin3.base
    have h3 := fin3.sub
    cases t with
    | true =>
      rw [if_pos rfl] at w3 ⊢
      exact ⟨T, F3, ρ2, Xp, _, rel3, w3, fun z s4 ρ4 w4 F4 H4 u4 rel4 f4 h4 ok4 =>
        cmp_ok rel4 ((ok2.top rel2).grow (f3.trans f4) (h3.trans h4)) (ok4.top rel4) w4 (kn.ret (f1.trans (f2.trans (f3.trans f4))) (h1.trans (h2.trans (h3.trans h4)))), xo⟩
    | false =>
      rw [if_neg (by decide)] at w3 ⊢
      exact (kn.ret (f1.trans (f2.trans f3)) (h1.trans (h2.trans h3))).bool rel3 w3
theorem last_marks {o p : CmpOp} (hs : notSet c = true) : lastMarks [o, p] [b, c] = false := not_marked hs p
theorem e_chain {o p : Cop} (hu : X.A.units + 65 < cLine) (ha : PE X a (rdE ((X.K, X.w) : KW) M ra)) (hb : PE X b (rdE ((X.K, X.w) : KW) M rb)) (hc : PE X c (rdE ((X.K, X.w) : KW) M rc)) (hs : notSet c = true) : PE X (.Compare a [o.op, p.op] [b, c] pos) (rdE ((X.K, X.w) : KW) M (.chain o p ra rb rc)) :=
  PE.imp (pe_chain (op_cmp hu o) (op_cmp hu p) ha hb hc (last_marks hs)) chain_core
theorem t_chain {o p : Cop} (hu : X.A.units + 65 < cLine) (ha : PE X a (rdE ((X.K, X.w) : KW) M ra)) (hb : PE X b (rdE ((X.K, X.w) : KW) M rb)) (hc : PE X c (rdE ((X.K, X.w) : KW) M rc)) (hs : notSet c = true) : PT X (.Compare a [o.op, p.op] [b, c] pos) (rdT ((X.K, X.w) : KW) M (.chain o p ra rb rc)) :=
  PT.imp (pt_chain (op_cmp hu o) (op_cmp hu p) ha hb hc (last_marks hs)) fun σ H Q h => chain_core _ _ _ (rdT_E _ _ _ h)
theorem e_not (ha : PE X a (rdE ((X.K, X.w) : KW) M ra)) : PE X (.UnaryOp .Not a pos) (rdE ((X.K, X.w) : KW) M (.bnot ra)) :=
  PE.imp (pe_not ha) fun σ H Q ⟨T, F, ρ, Xp, Qp, rel, w, kn, xo⟩ => by
    rw [wpE] at w
    refine ⟨T, F, ρ, Xp, _, rel, w, fun x s ρ1 w1 F1 H1 v rel1 f1 h1 ok1 => ?_, xo⟩
    obtain ⟨i, rfl, q⟩ := w1
    exact ⟨i, (ok1.top rel1).bool, (kn.ret f1 h1).bool rel1 q⟩
theorem t_not (ha : PT X a (rdT ((X.K, X.w) : KW) M ra)) : PT X (.UnaryOp .Not a pos) (rdT ((X.K, X.w) : KW) M (.bnot ra)) :=
  PT.imp (pt_not ha) fun σ H Q ⟨T, F, ρ, Xp, Qp, rel, w, kn, xo⟩ => by
    rw [wpE] at w
    refine ⟨T, F, ρ, Xp, _, rel, w, fun x s ρ1 w1 => ?_, xo⟩
    obtain ⟨i, rfl, q⟩ := w1
    obtain ⟨t, e, k⟩ := kn _ _ _ q
    cases e
    exact ⟨i, rfl, fun F' H' rel' f h => k F' H' rel' f h⟩
theorem band_core : ∀ σ H Q, rdE ((X.K, X.w) : KW) M (.band ra rb) σ H Q → tAndV (rdE ((X.K, X.w) : KW) M ra) (rdE ((X.K, X.w) : KW) M rb) σ H Q := fun σ H Q ⟨T, F, ρ, Xp, Qp, rel, w, kn, xo⟩ => by
    rw [wpE] at w
    refine ⟨T, F, ρ, Xp, _, rel, w, fun x s ρ1 w1 F1 H1 v rel1 f1 h1 ok1 => ?_, xo⟩
    obtain ⟨t, rfl, q⟩ := w1
    refine ⟨t, (ok1.top rel1).bool, ?_⟩
    cases t with
    | true =>
      rw [if_pos rfl] at q ⊢
      exact ⟨T, F1, ρ1, Xp, _, rel1, q, kn.grow f1 h1, xo⟩
    | false =>
      rw [if_neg (by decide)] at q ⊢
      exact (kn.ret f1 h1).bool rel1 q
theorem bor_core : ∀ σ H Q, rdE ((X.K, X.w) : KW) M (.bor ra rb) σ H Q → tOrV (rdE ((X.K, X.w) : KW) M ra) (rdE ((X.K, X.w) : KW) M rb) σ H Q := fun σ H Q ⟨T, F, ρ, Xp, Qp, rel, w, kn, xo⟩ => by
    rw [wpE] at w
    refine ⟨T, F, ρ, Xp, _, rel, w, fun x s ρ1 w1 F1 H1 v rel1 f1 h1 ok1 => ?_, xo⟩
    obtain ⟨t, rfl, q⟩ := w1
    refine ⟨t, (ok1.top rel1).bool, ?_⟩
    cases t with
    | false =>
      rw [if_neg (by decide)] at q ⊢
      exact ⟨T, F1, ρ1, Xp, _, rel1, q, kn.grow f1 h1, xo⟩
    | true =>
      rw [if_pos rfl] at q ⊢
      exact (kn.ret f1 h1).bool rel1 q
theorem bandT_core : ∀ σ H Q, rdT ((X.K, X.w) : KW) M (.band ra rb) σ H Q → tAnd (rdT ((X.K, X.w) : KW) M ra) (rdT ((X.K, X.w) : KW) M rb) σ H Q := fun σ H Q ⟨T, F, ρ, Xp, Qp, rel, w, kn, xo⟩ => by
    rw [wpE] at w
    refine ⟨T, F, ρ, Xp, _, rel, w, fun x s ρ1 w1 => ?_, xo⟩
    obtain ⟨t, rfl, q⟩ := w1
    refine ⟨t, rfl, fun F1 H1 rel1 f1 h1 => ?_⟩
    cases t with
    | true =>
      rw [if_pos rfl] at q ⊢
      refine ⟨T, F1, ρ1, Xp, _, rel1, q, fun d s ρ' p => ?_, xo⟩
      obtain ⟨b, e, k⟩ := kn d s ρ' p
      exact ⟨b, e, fun F' H' rel' f h => k F' H' rel' (f1.trans f) (h1.trans h)⟩
    | false =>
      rw [if_neg (by decide)] at q ⊢
      obtain ⟨b, e, k⟩ := kn _ _ _ q
      cases e
      exact k F1 H1 rel1 f1 h1
theorem borT_core : ∀ σ H Q, rdT ((X.K, X.w) : KW) M (.bor ra rb) σ H Q → tOr (rdT ((X.K, X.w) : KW) M ra) (rdT ((X.K, X.w) : KW) M rb) σ H Q := fun σ H Q ⟨T, F, ρ, Xp, Qp, rel, w, kn, xo⟩ => by
    rw [wpE] at w
    refine ⟨T, F, ρ, Xp, _, rel, w, fun x s ρ1 w1 => ?_, xo⟩
    obtain ⟨t, rfl, q⟩ := w1
    refine ⟨t, rfl, fun F1 H1 rel1 f1 h1 => ?_⟩
    cases t with
    | false =>
      rw [if_neg (by decide)] at q ⊢
      refine ⟨T, F1, ρ1, Xp, _, rel1, q, fun d s ρ' p => ?_, xo⟩
      obtain ⟨b, e, k⟩ := kn d s ρ' p
      exact ⟨b, e, fun F' H' rel' f h => k F' H' rel' (f1.trans f) (h1.trans h)⟩
    | true =>
      rw [if_pos rfl] at q ⊢
      obtain ⟨b, e, k⟩ := kn _ _ _ q
      cases e
      exact k F1 H1 rel1 f1 h1
theorem e_ifx (hc : PT X c (rdT ((X.K, X.w) : KW) M rc)) (ha : PE X a (rdE ((X.K, X.w) : KW) M ra)) (hb : PE X b (rdE ((X.K, X.w) : KW) M rb)) : PE X (.IfExp c a b pos) (rdE ((X.K, X.w) : KW) M (.ifx rc ra rb)) :=
  PE.imp (pe_ifExp hc ha hb) fun σ H Q ⟨T, F, ρ, Xp, Qp, rel, w, kn, xo⟩ => by
    rw [wpE] at w
    refine ⟨T, F, ρ, Xp, _, rel, w, fun x s ρ1 w1 => ?_, xo⟩
    obtain ⟨t, rfl, q⟩ := w1
    refine ⟨t, rfl, fun F1 H1 rel1 f1 h1 => ?_⟩
    cases t with
    | true =>
      rw [if_pos rfl] at q ⊢
      exact ⟨T, F1, ρ1, Xp, _, rel1, q, kn.grow f1 h1, xo⟩
    | false =>
      rw [if_neg (by decide)] at q ⊢
      exact ⟨T, F1, ρ1, Xp, _, rel1, q, kn.grow f1 h1, xo⟩
/-- a test that is a value -/
theorem t_val {r : CE} (h : PE X e (rdE ((X.K, X.w) : KW) M r)) (hp : plainT e = true) : PT X e (rdT ((X.K, X.w) : KW) M r) := PT.imp (pt_val h fun wh => plain_true hp _ wh) fun σ H Q h => rdT_E _ _ _ h

/-! lists of expressions -/
theorem a_nil : PA X [] (rdA ((X.K, X.w) : KW) M .nil) := PA.imp pa_nil fun σ H Q ⟨T, F, ρ, Xp, Qp, rel, w, kn, xo⟩ => by
  rw [wpA] at w
  exact kn [] ρ w F H [] rel (Sub.refl _) (Sub.refl _) .nil
theorem a_cons (ha : PE X a (rdE ((X.K, X.w) : KW) M ra)) (hs : PA X es (rdA ((X.K, X.w) : KW) M res)) (ns : notStar a = true) : PA X (a :: es) (rdA ((X.K, X.w) : KW) M (.cons ra res)) :=
  PA.imp (pa_cons ha hs (star_cons ns _ _)) fun σ H Q ⟨T, F, ρ, Xp, Qp, rel, w, kn, xo⟩ => by
    rw [wpA] at w
    refine ⟨T, F, ρ, Xp, _, rel, w, fun x s ρ1 w1 F1 H1 v rel1 f1 h1 ok1 => ?_, xo⟩
    obtain ⟨F2, f2, rel2, rp⟩ := rel1.frz ok1
    exact ⟨T, F2, _, Xp, _, rel2, w1, fun ds ρ3 w3 F3 H3 vs rel3 f3 h3 rs => kn _ _ w3 F3 H3 _ rel3 (f1.trans (f2.trans f3)) (h1.trans h3) (.cons (rp.mono f3) rs), xo⟩
theorem r_nil : PA X [] (rdR ((X.K, X.w) : KW) M .nil) := PA.imp pa_nil fun σ H Q ⟨T, F, ρ, Xp, Qp, rel, w, kn, xo⟩ => by
  rw [wpR] at w
  exact kn [] ρ w F H [] rel (Sub.refl _) (Sub.refl _) .nil
theorem r_cons (ha : PE X a (rdE ((X.K, X.w) : KW) M ra)) (hs : PA X es (rdR ((X.K, X.w) : KW) M res)) (ns : notStar a = true) : PA X (a :: es) (rdR ((X.K, X.w) : KW) M (.cons ra res)) :=
  PA.imp (pa_cons ha hs (star_cons ns _ _)) fun σ H Q ⟨T, F, ρ, Xp, Qp, rel, w, kn, xo⟩ => by
    rw [wpR] at w
    refine ⟨T, F, ρ, Xp, _, rel, w, fun x s ρ1 w1 F1 H1 v rel1 f1 h1 ok1 => ?_, xo⟩
    exact ⟨T, F1, _, Xp, _, rel1, w1, fun ds ρ3 w3 F3 H3 vs rel3 f3 h3 rs => kn _ _ w3 F3 H3 _ rel3 (f1.trans f3) (h1.trans h3) (.cons ((ok1.top rel1).grow f3 h3) rs), xo⟩
theorem e_tup {k : Nat} (h : PA X es (rdA ((X.K, X.w) : KW) M res)) : PE X (.Tuple es k pos) (rdE ((X.K, X.w) : KW) M (.tup res)) :=
  PE.imp (pe_tup h) fun σ H Q ⟨T, F, ρ, Xp, Qp, rel, w, kn, xo⟩ => by
    rw [wpE] at w
    refine ⟨T, F, ρ, Xp, _, rel, w, fun ds ρ1 w1 F1 H1 vs rel1 f1 h1 rs => ?_, xo⟩
    exact ⟨by rw [rs.length]; exact w1.1, fun p n => (kn.ret f1 h1).tup rel1 w1.2 rs n⟩
theorem e_lst (h : PA X es (rdA ((X.K, X.w) : KW) M res)) : PE X (.List es pos) (rdE ((X.K, X.w) : KW) M (.lst res)) :=
  PE.imp (pe_lst h) fun σ H Q ⟨T, F, ρ, Xp, Qp, rel, w, kn, xo⟩ => by
    rw [wpE] at w
    refine ⟨T, F, ρ, Xp, _, rel, w, fun ds ρ1 w1 F1 H1 vs rel1 f1 h1 rs => ?_, xo⟩
    exact ⟨by rw [rs.length]; exact w1.1, fun p n => (kn.ret f1 h1).lst rel1 w1.2 rs n⟩

/-! names, constants -/
theorem e_v {i : Nat} {x : Str} (hN : X.N[i]? = some x) (hv : Vis X.env.scope x) (hd : (x == ("__debug__" : Str)) = false) (hcd : (x == ("__classdict__" : Str)) = false) : PE X (.Name x pos) (rdE ((X.K, X.w) : KW) M (.v i)) :=
  PE.imp (pe_var hN hv hd hcd) fun σ H Q ⟨T, F, ρ, Xp, Qp, rel, w, kn, xo⟩ => by
    rw [wpE] at w
    split at w
    · exact w.elim
    · rename_i d e
      have e' : ρ[i]? = some (.im d) := by
        rw [List.getD_eq_getElem?_getD] at e
        cases q : ρ[i]? with
        | none =>
          rw [q] at e
          cases e
        | some z =>
          rw [q] at e
          exact congrArg some e
      obtain ⟨v, h1, h2⟩ := rel.im i d e'
      exact ⟨v, h1, kn _ _ _ w F H v rel (Sub.refl _) (Sub.refl _) h2⟩
    · rename_i d e
      have e' : ρ[i]? = some (.own d) := by
        rw [List.getD_eq_getElem?_getD] at e
        cases q : ρ[i]? with
        | none =>
          rw [q] at e
          cases e
        | some z =>
          rw [q] at e
          exact congrArg some e
      obtain ⟨p, h1, h2, h3⟩ := rel.own i d e'
      exact ⟨.ref p, h1, kn _ _ _ w F H _ rel (Sub.refl _) (Sub.refl _) ⟨h1, e'⟩⟩
theorem e_val {v : V} {d : D} {r : CE} (h : PE X e (tC v)) (hr : ∀ F, Rep ((X.K, X.w) : KW) F v d) (hw : ∀ Xp ρ Qp, wpE M.G M.Γ Xp r ρ Qp → Qp d .im ρ) : PE X e (rdE ((X.K, X.w) : KW) M r) :=
  PE.imp h fun σ H Q ⟨T, F, ρ, Xp, Qp, rel, w, kn, xo⟩ => kn _ _ _ (hw _ _ _ w) F H v rel (Sub.refl _) (Sub.refl _) (hr F)

/-! subscripts -/
theorem e_ix (hu : X.A.units + 65 < cLine) (ha : PE X a (rdE ((X.K, X.w) : KW) M ra)) (hb : PE X b (rdE ((X.K, X.w) : KW) M rb)) (ns : notSlice b = true) : PE X (.Subscript a b pos) (rdE ((X.K, X.w) : KW) M (.ix ra rb)) :=
  PE.imp (pe_ix (ix_N hu) ha hb (plain_ix ns)) fun σ H Q ⟨T, F, ρ, Xp, Qp, rel, w, kn, xo⟩ => by
    rw [wpE] at w
    exact ⟨T, F, ρ, Xp, _, rel, w, fun x s ρ1 w1 F1 H1 v rel1 f1 h1 ok1 => ⟨T, F1, ρ1, Xp, _, rel1, w1, fun y s2 ρ2 w2 F2 H2 u rel2 f2 h2 ok2 =>
      ix_ok rel2 ((ok1.top rel1).grow f2 h2) (ok2.top rel2) w2 (kn.ret (f1.trans f2) (h1.trans h2)), xo⟩, xo⟩
/-- a slice's part -/
inductive PartOf : Option Expr → CEs → Prop
  | no : PartOf none .nil
  | one (e : Expr) (r : CE) : PartOf (some e) (.cons r .nil)
def rdO (K : KW) (M : Mean) (r : CEs) : TO := fun σ H Q => ∃ T F ρ Xp Qp, Rel K T F H ρ σ ∧ wpR M.G M.Γ Xp r ρ Qp ∧
  (∀ ds ρ', Qp ds ρ' → ∃ o, optI ds = some o ∧ ∀ F' H', Rel K T F' H' ρ' σ → Sub F F' → Sub H H' → Q o H') ∧ XOk M T Xp
theorem o_no : PO X none (rdO ((X.K, X.w) : KW) M .nil) := ⟨fun pins s σ H Q I ⟨T, F, ρ, Xp, Qp, rel, w, kn, xo⟩ => by
  rw [wpR] at w
  obtain ⟨o, e, k⟩ := kn [] ρ w
  cases e
  exact po_none.run pins s σ H Q I (k F H rel (Sub.refl _) (Sub.refl _))⟩
theorem o_one (ha : PE X a (rdE ((X.K, X.w) : KW) M ra)) : PO X (some a) (rdO ((X.K, X.w) : KW) M (.cons ra .nil)) := ⟨fun pins s σ H Q I ⟨T, F, ρ, Xp, Qp, rel, w, kn, xo⟩ => by
  rw [wpR] at w
  refine (po_some ha).run pins s σ H Q I ⟨T, F, ρ, Xp, _, rel, w, fun x s ρ1 w1 F1 H1 v rel1 f1 h1 ok1 => ?_, xo⟩
  obtain ⟨o, e, k⟩ := kn _ _ w1
  unfold optI at e
  split at e
  · rename_i z
    cases z
  · rename_i i z
    cases z
    cases e
    exact ⟨i, (ok1.top rel1).int, k F1 H1 rel1 f1 h1⟩
  · cases e⟩
theorem e_sl {lo hi : Option Expr} {rl rh : CEs} {p2 : Pos} (ha : PE X a (rdE ((X.K, X.w) : KW) M ra)) (hl : PO X lo (rdO ((X.K, X.w) : KW) M rl)) (hh : PO X hi (rdO ((X.K, X.w) : KW) M rh)) : PE X (.Subscript a (.Slice lo hi none p2) pos) (rdE ((X.K, X.w) : KW) M (.sl ra rl rh)) :=
  PE.imp (pe_slice sl_N ha hl hh) fun σ H Q ⟨T, F, ρ, Xp, Qp, rel, w, kn, xo⟩ => by
    rw [wpE] at w
    refine ⟨T, F, ρ, Xp, _, rel, w, fun x s ρ1 w1 F1 H1 v rel1 f1 h1 ok1 => ⟨T, F1, ρ1, Xp, _, rel1, w1, fun l ρ2 ⟨l', el, w2⟩ => ⟨l', el, fun F2 H2 rel2 f2 h2 =>
      ⟨T, F2, ρ2, Xp, _, rel2, w2, fun h ρ3 ⟨h', eh, w3⟩ => ⟨h', eh, fun F3 H3 rel3 f3 h3 => sl_ok rel3 ((ok1.top rel1).grow (f2.trans f3) (h2.trans h3)) w3 (kn.ret (f1.trans (f2.trans f3)) (h1.trans (h2.trans h3)))⟩, xo⟩⟩, xo⟩, xo⟩
theorem e_rv {k : Nat} {p1 p2 p3 : Pos} (ha : PE X a (rdE ((X.K, X.w) : KW) M ra)) : PE X (.Subscript a (.Slice none none (some (.UnaryOp .USub (.Constant (.int 1) k p1) p2)) p3) pos) (rdE ((X.K, X.w) : KW) M (.rv ra)) :=
  PE.imp (pe_revN ha) fun σ H Q ⟨T, F, ρ, Xp, Qp, rel, w, kn, xo⟩ => by
    rw [wpE] at w
    exact ⟨T, F, ρ, Xp, _, rel, w, fun x s ρ1 w1 F1 H1 v rel1 f1 h1 ok1 => rv_ok rel1 (ok1.top rel1) w1 (kn.ret f1 h1), xo⟩
end
end Pe
end

section
set_option maxRecDepth 100000
/-! Pe10: calls, built-ins, methods, displays, targets, what is walked, comprehensions. -/
namespace Pe
open PySem PySem.Spec PyProof.Rows L2

/-! ### calls -/
/-- what a def promises: the calls' relation -/
def spP (K : KW) (xc : Nat → Addr) (n : Nat) (R : List D → Res → Prop) : Sp := fun vs H Q E => vs.length = n ∧ ∃ F ds r, Sub F H ∧ RepL K F vs ds ∧ R ds r ∧ (match r with
  | .val d => ∀ F' H' v, Fin ⟨H, F⟩ F' H' → Rep K F' v d → Q v H'
  | .exc c => ∀ H', Sub H H' → E (.ref (xc c)) none H')
/-- what must be known of a name to call it -/
def Prom (X : Cx) (M : Mean) (xc : Nat → Addr) (x : Str) (f : Nat) : Prop :=
  ∃ (CX : CXT) (k : Nat) (fa : Addr) (fd : FuncData) (ps : List Str) (E : XK), FnOk X.prog X.w X.K X.mg X.base CX k fa fd ps (spP (X.K, X.w) xc ps.length (M.Γ f)) ∧ Room k X.A ∧ X.mg x = some (.ref fa) ∧
    PySem.W.keepIn X.K (.ref fa) = true ∧ Binds X.K fd ps [] ∧ Passes CX X E ∧ (∀ c H', M.xE c H' → E (.ref (xc c)) none H') ∧ (∀ ds r, M.Γ f ds r → ds.length = ps.length) ∧ ∀ outer H s e s', CX outer H s (fun _ _ _ => False) e s' → False
section
variable {X : Cx} {M : Mean} {a b c e : Expr} {ra rb rc : CE} {es : List Expr} {res : CEs} {pos p : Pos} {x : Str} {f : Nat} {xc : Nat → Addr}
theorem call_core {k : Nat} {fa : Addr} {E : XK} {n : Nat} (hE : ∀ c H', M.xE c H' → E (.ref (xc c)) none H') (hn : ∀ ds r, M.Γ f ds r → ds.length = n) :
    ∀ σ H Q, rdE ((X.K, X.w) : KW) M (.call f res) σ H Q → tCall (spP ((X.K, X.w) : KW) xc n (M.Γ f)) [] E (rdA ((X.K, X.w) : KW) M res) σ H Q := fun σ H Q ⟨T, F, ρ, Xp, Qp, rel, w, kn, xo⟩ => by
  rw [wpE] at w
  refine ⟨T, F, ρ, Xp, _, rel, w, fun ds ρ1 w1 F1 H1 vs rel1 f1 h1 rs => ?_, xo⟩
  obtain ⟨r, g, w1⟩ := w1
  rw [List.append_nil]
  refine ⟨by rw [rs.length]; exact hn ds r g, F1, ds, r, rel1.fin.fh, rs, g, ?_⟩
  cases r with
  | val d => exact fun F' H' v fin rp => kn _ _ _ w1 F' H' v (rel1.trans fin) (f1.trans fin.base) (h1.trans fin.sub) rp
  | exc c => exact fun H' s => hE c H' (xo c w1 H' (rel1.fin.sub.trans s))
theorem e_call (P : Prom X M xc x f) (hg : Gl X x) (hdb : (x == ("__debug__" : Str)) = false) (ha : PA X (a :: es) (rdA ((X.K, X.w) : KW) M res)) (hs : (a :: es).all notStar = true) : PE X (.Call (.Name x p) (a :: es) [] pos) (rdE ((X.K, X.w) : KW) M (.call f res)) := by
  obtain ⟨CX, k, fa, fd, ps, E, F, hr, hm, hk, hb, hx, hE, hn, _⟩ := P
  rw [List.all_cons, Bool.and_eq_true] at hs
  exact PE.imp (pe_call F hr hg hm hk hb .nil hx ha hdb (star_cons hs.1 _ _) (star_all hs.2 _ _)) (call_core (fa := fa) (k := k) hE hn)
theorem e_call0 (P : Prom X M xc x f) (hg : Gl X x) (hdb : (x == ("__debug__" : Str)) = false) : PE X (.Call (.Name x p) [] [] pos) (rdE ((X.K, X.w) : KW) M (.call f .nil)) := by
  obtain ⟨CX, k, fa, fd, ps, E, F, hr, hm, hk, hb, hx, hE, hn, _⟩ := P
  refine PE.imp (pe_call0 F hr hg hm hk hb .nil hx hdb) fun σ H Q h => ?_
  obtain ⟨T, F, ρ, Xp, Qp, rel, w, kn, xo⟩ := call_core (fa := fa) (k := k) hE hn σ H Q h
  rw [wpA] at w
  exact kn [] ρ w F H [] rel (Sub.refl _) (Sub.refl _) .nil

/-! ### built-ins -/
theorem blt_core {bl : Blt} {id : Bool × String} (hb : bltVal bl = some id) : ∀ σ H Q, rdE ((X.K, X.w) : KW) M (.blt bl res) σ H Q → tCB (rBlt X.K bl) (rdR ((X.K, X.w) : KW) M res) σ H Q := fun σ H Q ⟨T, F, ρ, Xp, Qp, rel, w, kn, xo⟩ => by
  rw [wpE] at w
  refine ⟨T, F, ρ, Xp, _, rel, w, fun ds ρ1 w1 F1 H1 vs rel1 f1 h1 rs => ?_, xo⟩
  rcases blt_ok rel1 rs w1 (kn.ret f1 h1) with h | h
  · exact h
  · rw [hb] at h
    cases h
theorem e_bltF {bl : Blt} {id : String} (hb : bltVal bl = some (false, id)) (hc : X.calm = true) (hg : Gl X x) (hm : X.mg x = none) (hv : bootBuiltins x = some (.builtin id)) (hn : x ≠ "__name__") (hdb : (x == ("__debug__" : Str)) = false)
    (ha : PA X (a :: es) (rdR ((X.K, X.w) : KW) M res)) (hs : (a :: es).all notStar = true) : PE X (.Call (.Name x p) (a :: es) [] pos) (rdE ((X.K, X.w) : KW) M (.blt bl res)) := by
  rw [List.all_cons, Bool.and_eq_true] at hs
  exact PE.imp (pe_callB ((cr_blt hc bl id).1 hb) hg hm hv ha hn hdb (star_cons hs.1 _ _) (star_all hs.2 _ _)) (blt_core hb)
theorem e_bltT {bl : Blt} {id : String} (hb : bltVal bl = some (true, id)) (hc : X.calm = true) (hg : Gl X x) (hm : X.mg x = none) (hv : bootBuiltins x = some (.type id)) (hn : x ≠ "__name__") (hdb : (x == ("__debug__" : Str)) = false)
    (ha : PA X (a :: es) (rdR ((X.K, X.w) : KW) M res)) (hs : (a :: es).all notStar = true) : PE X (.Call (.Name x p) (a :: es) [] pos) (rdE ((X.K, X.w) : KW) M (.blt bl res)) := by
  rw [List.all_cons, Bool.and_eq_true] at hs
  exact PE.imp (pe_callTy ((cr_blt hc bl id).2 hb) hg hm hv ha hn hdb (star_cons hs.1 _ _) (star_all hs.2 _ _)) (blt_core hb)
theorem rg_rep {K : KW} {F : Hp} {n : Int} : RepL K F (rgV 0 n) (rgD n.toNat 0) := by
  unfold rgV rgD
  rw [Int.sub_zero]
  generalize List.range n.toNat = l
  induction l with
  | nil => exact .nil
  | cons i l ih =>
    rw [List.map_cons, List.map_cons]
    exact .cons (.int _) ih
theorem e_tupRg {p2 pos2 : Pos} (hc : X.calm = true) (hg : Gl X "tuple") (hm : X.mg "tuple" = none) (hg2 : Gl X "range") (hm2 : X.mg "range" = none) (ha : PE X a (rdE ((X.K, X.w) : KW) M ra)) (ns : notStar a = true) :
    PE X (.Call (.Name "tuple" p) [.Call (.Name "range" p2) [a] [] pos2] [] pos) (rdE ((X.K, X.w) : KW) M (.blt .tupRg1 (.cons ra .nil))) :=
  PE.imp (pe_tupRg hc hg hm (prg_1 hg2 hm2 ha (star_cons ns _ _))) fun σ H Q ⟨T, F, ρ, Xp, Qp, rel, w, kn, xo⟩ => by
    rw [wpE, wpR] at w
    refine ⟨T, F, ρ, Xp, _, rel, w, fun d s ρ1 w1 F1 H1 v rel1 f1 h1 ok1 => ?_, xo⟩
    change bltR .tupRg1 [d] _ at w1
    obtain ⟨n, rfl⟩ : ∃ n, d = .int n := by
      cases d <;> first | exact ⟨_, rfl⟩ | exact False.elim w1
    obtain ⟨⟨z1, z2⟩, w1⟩ := w1
    exact ⟨_, (ok1.top rel1).int, ⟨by decide, by decide, z1, by omega, by omega⟩, fun q n => (kn.ret f1 h1).tup rel1 w1 rg_rep n⟩
theorem e_listRg {p2 pos2 : Pos} (hc : X.calm = true) (hg : Gl X "list") (hm : X.mg "list" = none) (hg2 : Gl X "range") (hm2 : X.mg "range" = none) (ha : PE X a (rdE ((X.K, X.w) : KW) M ra)) (ns : notStar a = true) :
    PE X (.Call (.Name "list" p) [.Call (.Name "range" p2) [a] [] pos2] [] pos) (rdE ((X.K, X.w) : KW) M (.blt .listRg1 (.cons ra .nil))) :=
  PE.imp (pe_listRg hc hg hm (prg_1 hg2 hm2 ha (star_cons ns _ _))) fun σ H Q ⟨T, F, ρ, Xp, Qp, rel, w, kn, xo⟩ => by
    rw [wpE, wpR] at w
    refine ⟨T, F, ρ, Xp, _, rel, w, fun d s ρ1 w1 F1 H1 v rel1 f1 h1 ok1 => ?_, xo⟩
    change bltR .listRg1 [d] _ at w1
    obtain ⟨n, rfl⟩ : ∃ n, d = .int n := by
      cases d <;> first | exact ⟨_, rfl⟩ | exact False.elim w1
    obtain ⟨⟨z1, z2⟩, w1⟩ := w1
    exact ⟨_, (ok1.top rel1).int, ⟨by decide, by decide, z1, by omega, by omega⟩, fun q n => (kn.ret f1 h1).lst rel1 w1 rg_rep n⟩

/-! ### d.get(k, x) -/
theorem pe_dget2N {o f : Expr} {td ty tx : TE} {apos cpos : Pos} (hu : X.A.units + 65 < cLine) (ho : PE X o td) (he : PE X e ty) (hf : PE X f tx) (m : M2 X o "get" apos e f cpos) :
    PE X (.Call (.Attribute o "get" apos) [e, f] [] cpos) (fun σ H Q => td σ H fun x H1 => ∃ a, x = .ref a ∧ (∃ xs F ds, Sub F H1 ∧ Rd H1 a (dN X.w a xs) ∧ RepM ((X.K, X.w) : KW) F xs ds) ∧ ty σ H1 fun y H2 => tx σ H2 fun z H3 =>
      ∃ xs F ds k dd, Sub F H3 ∧ Rd H3 a (dN X.w a xs) ∧ RepM ((X.K, X.w) : KW) F xs ds ∧ isKey k = true ∧ Rep ((X.K, X.w) : KW) H3 y k ∧ Rep ((X.K, X.w) : KW) F z dd ∧ ∀ v, Rep ((X.K, X.w) : KW) F v ((getD ds k).getD dd) → Q v H3) := by
  refine ⟨fun pins s σ H Q I h => ?_⟩
  refine wpAny_Call_method m.base m.few m.line PySem.F.plainAttrs_dict PySem.F.slot_dict_get PySem.F.type_dict_get (thn (ho.run pins s σ H _ I h) fun u s1 ⟨x, H1, I1, rx, a, ex, ⟨xs, F, ds, fh, rd, r⟩, q1⟩ => ?_)
  subst ex
  obtain rfl : u = Value.ref a := rx
  obtain ⟨_, _, vs, _, dd, _⟩ := dn_rd I1 rd (r.mono fh)
  obtain ⟨ob, es', ep', g1, g2, g3, _⟩ := id dd
  refine ⟨dd.typeIs, fun b e => by cases e; exact ⟨ob, g1, g2.2.1⟩, ?_⟩
  rw [m.trees]
  refine Calls.callWith_builtin rfl (Calls.evalArgs_plain (Calls.spliced_cons (thn (he.run pins s1 σ H1 _ I1 q1) fun iv s2 ⟨y, H2, I2, ry, q2⟩ =>
    Calls.spliced_cons (thn (hf.run pins s2 σ H2 _ I2 q2) fun fv s3 ⟨z, H3, I3, rz, xs', F', ds', k, dd', fh', rd', r', hk, rk, rdd, q3⟩ => Calls.spliced_nil ?_))))
  exact n_get2 hu I3 fh' rd' r' hk rk ry rdd rz fun v w' s4 I4 rv rr => ⟨v, H3, I4, rv, q3 v rr⟩
theorem e_get2 {o f : Expr} {ro rf : CE} {apos cpos : Pos} (hu : X.A.units + 65 < cLine) (ho : PE X o (rdE ((X.K, X.w) : KW) M ro)) (he : PE X e (rdE ((X.K, X.w) : KW) M ra)) (hf : PE X f (rdE ((X.K, X.w) : KW) M rf)) (hn : isName o = true) (ne : notStar e = true) (nf : notStar f = true) (hl : (apos.endLine == cpos.line) = true) :
    PE X (.Call (.Attribute o "get" apos) [e, f] [] cpos) (rdE ((X.K, X.w) : KW) M (.mt .get2 ro (.cons ra (.cons rf .nil)))) := by
  have m : M2 X o "get" apos e f cpos := by
    refine ⟨base_name hn _ _ _, ?_, hl, ?_⟩
    · rw [star_cons ne, star_cons nf]
      rfl
    · rw [star_cons ne, star_cons nf]
      rfl
  refine PE.imp (pe_dget2N hu ho he hf m) fun σ H Q ⟨T, F, ρ, Xp, Qp, rel, w, kn, xo⟩ => ?_
  rw [wpE] at w
  refine ⟨T, F, ρ, Xp, _, rel, w, fun x s ρ1 w1 F1 H1 v rel1 f1 h1 ok1 => ?_, xo⟩
  obtain ⟨rc, w1⟩ := w1
  unfold rcvR at rc
  split at rc
  · rename_i kvs _
    have tp := ok1.top rel1
    obtain ⟨a, xs, rfl, rd, r⟩ := tp.dict rel1.fin.fh
    refine ⟨a, rfl, ⟨xs, F1, kvs, rel1.fin.fh, rd, r⟩, ?_⟩
    rw [wpA] at w1
    refine ⟨T, F1, ρ1, Xp, _, rel1, w1, fun y s2 ρ2 w2 F2 H2 v2 rel2 f2 h2 ok2 => ?_, xo⟩
    obtain ⟨F3, f3, rel3, rp3⟩ := rel2.frz ok2
    refine ⟨T, F3, _, Xp, _, rel3, w2, fun z s4 ρ4 w4 F4 H4 v4 rel4 f4 h4 ok4 => ?_, xo⟩
    obtain ⟨F5, f5, rel5, rp5⟩ := rel4.frz ok4
    unfold mtR at w4
    have r5 : RepM ((X.K, X.w) : KW) F5 xs kvs := r.mono (f2.trans (f3.trans (f4.trans f5)))
    obtain ⟨hk, w4⟩ := w4
    exact ⟨xs, F5, kvs, y, z, rel5.fin.fh, (h2.trans h4).rd rd, r5, hk, (rp3.mono (f4.trans f5)).mono rel5.fin.fh, rp5, fun v rv => kn _ _ _ w4 F5 H4 v rel5 (f1.trans (f2.trans (f3.trans (f4.trans f5)))) (h1.trans (h2.trans h4)) rv⟩
  · rename_i z
    cases z
  · exact rc.elim

/-! ### {k: v, ..} -/
def trsOf (K : KW) (M : Mean) : CEs → List (TE × TE)
  | .cons a (.cons b r) => (rdE K M a, rdE K M b) :: trsOf K M r
  | _ => []
def evenC : CEs → Bool
  | .nil => true
  | .cons _ (.cons _ r) => evenC r
  | _ => false
/-- keys and values in turns -/
inductive PairsOf (K : KW) (F : Hp) : List (V × V) → List D → Prop
  | nil : PairsOf K F [] []
  | cons {k v : V} {dk dv : D} {ps : List (V × V)} {ds : List D} : Rep K F k dk → Rep K F v dv → PairsOf K F ps ds → PairsOf K F ((k, v) :: ps) (dk :: dv :: ds)
theorem pairs_ok {K : KW} {F : Hp} : ∀ {ps : List (V × V)} {ds : List D}, PairsOf K F ps ds → keysOk ds = true → ∀ acc : List (D × D), ∃ kvs, PairsRep K F ps kvs ∧ putsP acc kvs = putsD acc ds
  | _, _, .nil, _, acc => ⟨[], .nil, rfl⟩
  | _, _, .cons (dk := dk) (dv := dv) (ds := ds) h1 h2 t, hk, acc => by
    unfold keysOk at hk
    rw [Bool.and_eq_true] at hk
    obtain ⟨kvs, z1, z2⟩ := pairs_ok t hk.2 (putD acc dk dv)
    exact ⟨(dk, dv) :: kvs, .cons ⟨hk.1, h1, h2⟩ z1, z2⟩
theorem pairs_len {K : KW} {F : Hp} : ∀ {ps : List (V × V)} {ds : List D}, PairsOf K F ps ds → 2 * ps.length = ds.length
  | _, _, .nil => rfl
  | _, _, .cons h1 h2 t => by
    have := pairs_len t
    simp only [List.length_cons]
    omega
theorem pairs_run {K : KW} {T : At} {Xp : Nat → Prop} {σ : L2.St} (xo : XOk M T Xp) : ∀ (res : CEs) (F H : Hp) (ρ : Rho) (Qp : List D → Rho → Prop) (Q : List (V × V) → Hp → Prop), evenC res = true → Rel K T F H ρ σ → wpA M.G M.Γ Xp res ρ Qp →
    (∀ ds ρ', Qp ds ρ' → ∀ F' H' ps, Rel K T F' H' ρ' σ → Sub F F' → Sub H H' → PairsOf K F' ps ds → Q ps H') → tPairs (trsOf K M res) σ H Q
  | .nil, F, H, ρ, Qp, Q, _, rel, w, kn => by
    rw [wpA] at w
    exact kn [] ρ w F H [] rel (Sub.refl _) (Sub.refl _) .nil
  | .cons a (.cons b r), F, H, ρ, Qp, Q, ev, rel, w, kn => by
    rw [wpA] at w
    refine ⟨T, F, ρ, Xp, _, rel, w, fun x s ρ1 w1 F1 H1 v rel1 f1 h1 ok1 => ?_, xo⟩
    obtain ⟨F2, f2, rel2, rp2⟩ := rel1.frz ok1
    refine ⟨T, F2, _, Xp, _, rel2, w1, fun y s3 ρ3 w3 F3 H3 v3 rel3 f3 h3 ok3 => ?_, xo⟩
    obtain ⟨F4, f4, rel4, rp4⟩ := rel3.frz ok3
    exact pairs_run xo r F4 H3 _ _ _ ev rel4 w3 fun ds ρ' q F' H' ps rel' f h pp => kn _ _ q F' H' _ rel' (f1.trans (f2.trans (f3.trans (f4.trans f)))) (h1.trans (h3.trans h))
      (.cons (rp2.mono (f3.trans (f4.trans f))) (rp4.mono f) pp)
  | .cons a .nil, _, _, _, _, _, ev, _, _, _ => by cases ev

/-! a thing that is set aside -/
abbrev pinT (T : At) (p : Addr) (o : HO) : At := ⟨upd T.H0 p o, T.F0⟩
structure Aside (K : KW) (T : At) (F H : Hp) (ρ : Rho) (σ : L2.St) (p : Addr) (o : HO) : Prop where
  rel : Rel K T F H ρ σ
  at_ : H p = some o
  f : F p = none
  h0 : T.H0 p = none
  f0 : T.F0 p = none
  loose : Loose ρ σ p
  mt : Mut (some o)
section
variable {K : KW} {T : At} {F H F' H' : Hp} {ρ ρ' : Rho} {σ σ' : L2.St} {q : Addr} {o o' : HO}
theorem Aside.new (x : Rel K T F H ρ σ) (n : H q = none) (m : Mut (some o)) : Aside K T F (upd H q o) ρ σ q o :=
  have f := f_none x.fin.fh n
  ⟨x.trans (Fin.new x.fin.fh n), upd_same, f, f_none x.fin.sub n, f_none x.fin.base f, x.loose n, m⟩
theorem Aside.pin (x : Aside K T F H ρ σ q o) : Rel K (pinT T q o) F H ρ σ where
  fin := ⟨fun a u e => by
    by_cases h : a = q
    · subst h
      have e' : upd T.H0 a o a = some u := e
      rw [upd_same] at e'
      cases e'
      exact .inl x.at_
    · have e' : upd T.H0 q o a = some u := e
      rw [upd_ne h] at e'
      exact x.rel.fin.keep a u e', x.rel.fin.base, fun a m n => by
    by_cases h : a = q
    · subst h
      exact x.f
    · have m' : Mut (upd T.H0 q o a) := m
      rw [upd_ne h] at m'
      exact x.rel.fin.old a m' n, x.rel.fin.fh⟩
  len := x.rel.len
  im := x.rel.im
  own := fun i d e => by
    obtain ⟨p, h1, h2, h3⟩ := x.rel.own i d e
    refine ⟨p, h1, ⟨h2.f, ?_⟩, h3⟩
    show upd T.H0 q o p = none
    have hne : p ≠ q := fun z => x.loose i d e (by rw [← z]; exact h1)
    rw [upd_ne hne]
    exact h2.h0
  inj := x.rel.inj
theorem Aside.of_pin (x : Rel K (pinT T q o) F H ρ σ) (h0 : T.H0 q = none) (f0 : T.F0 q = none) (m : Mut (some o)) : Aside K T F H ρ σ q o where
  rel := ⟨⟨fun a u e => by
    have h : a ≠ q := fun z => by rw [z, h0] at e; cases e
    exact x.fin.keep a u (show upd T.H0 q o a = some u by rw [upd_ne h]; exact e), x.fin.base, fun a m n => by
    have h : a ≠ q := fun z => by rw [z, h0] at m; exact m
    exact x.fin.old a (show Mut (upd T.H0 q o a) by rw [upd_ne h]; exact m) n, x.fin.fh⟩, x.len, x.im, fun i d e => by
    obtain ⟨p, h1, h2, h3⟩ := x.own i d e
    refine ⟨p, h1, ⟨h2.f, ?_⟩, h3⟩
    have z : upd T.H0 q o p = none := h2.h0
    by_cases hp : p = q
    · rw [hp, upd_same] at z
      cases z
    · rw [upd_ne hp] at z
      exact z, x.inj⟩
  at_ := by
    rcases x.fin.keep q o upd_same with e | ⟨n, _⟩
    · exact e
    · exact absurd f0 n
  f := x.fin.old q (show Mut (upd T.H0 q o q) by rw [upd_same]; exact m) f0
  h0 := h0
  f0 := f0
  loose := fun i d e h => by
    obtain ⟨p, h1, h2, h3⟩ := x.own i d e
    rw [h1] at h
    cases h
    have z : upd T.H0 q o q = none := h2.h0
    rw [upd_same] at z
    cases z
  mt := m
/-- it is changed -/
theorem Aside.put (x : Aside K T F H ρ σ q o) (m : Mut (some o')) : Aside K T F (upd H q o') ρ σ q o' where
  rel := ⟨⟨fun a u e => by
    have h : a ≠ q := fun z => by rw [z, x.h0] at e; cases e
    rw [upd_ne h]
    exact x.rel.fin.keep a u e, x.rel.fin.base, x.rel.fin.old, fun a u e => by
    have h : a ≠ q := fun z => by rw [z, x.f] at e; cases e
    rw [upd_ne h]
    exact x.rel.fin.fh a u e⟩, x.rel.len, x.rel.im, fun i d e => by
    obtain ⟨p, h1, h2, h3⟩ := x.rel.own i d e
    have hne : p ≠ q := fun z => x.loose i d e (by rw [← z]; exact h1)
    exact ⟨p, h1, h2, h3.step (Sub.refl _) (upd_ne hne)⟩, x.rel.inj⟩
  at_ := upd_same
  f := x.f
  h0 := x.h0
  f0 := x.f0
  loose := x.loose
  mt := m
theorem Aside.step (x : Aside K T F H ρ σ q o) (y : Fin ⟨H, F⟩ F' H') : Aside K T F' H' ρ σ q o where
  rel := x.rel.trans y
  at_ := y.exact x.f x.at_
  f := y.old q (show Mut (H q) by rw [x.at_]; exact x.mt) x.f
  h0 := x.h0
  f0 := x.f0
  loose := x.loose
  mt := x.mt
end

theorem e_dct {keys : List (Option Expr)} {values : List Expr} (hu : X.A.units + 65 < cLine) (h : PPs X pos keys values (trsOf ((X.K, X.w) : KW) M res)) (hev : evenC res = true) (hall : keys.all (·.isSome) = true) (hl : keys.length = values.length) (h0 : keys ≠ [])
    (h15 : keys.length ≤ 15) : PE X (.Dict keys values pos) (rdE ((X.K, X.w) : KW) M (.dct res)) :=
  PE.imp (pe_dispN hu h hall hl h0 h15) fun σ H Q ⟨T, F, ρ, Xp, Qp, rel, w, kn, xo⟩ => by
    rw [wpE] at w
    intro p n
    have as := Aside.new (o := dN X.w p []) rel n trivial
    have sT : Sub T.H0 (pinT T p (dN X.w p [])).H0 := upd_sub as.h0
    refine pairs_run (T := pinT T p (dN X.w p [])) (Xp := Xp) (fun c h H' s => xo c h H' (sT.trans s)) res F _ ρ _ _ hev as.pin w fun ds ρ' q F' H' ps rel' f h pp => ?_
    have a2 := Aside.of_pin rel' as.h0 as.f0 trivial
    obtain ⟨⟨hk, hlen⟩, q⟩ := q
    obtain ⟨kvs, z1, z2⟩ := pairs_ok pp hk []
    have hl := pairs_len pp
    refine ⟨a2.at_, F', kvs, a2.rel.fin.fh, a2.f, z1, by omega, fun xs r => ?_⟩
    rw [z2] at r
    have a3 := a2.put (o' := dN X.w p xs) trivial
    exact kn _ _ _ q F' _ _ a3.rel f (fun a u e => by
      have hne : a ≠ p := fun z => by rw [z, n] at e; cases e
      obtain ⟨o, h1, h2⟩ := h a u (by rw [upd_ne hne]; exact e)
      exact ⟨o, by rw [upd_ne hne]; exact h1, h2⟩) ⟨p, rfl, ⟨a3.f, a3.h0⟩, ⟨xs, a3.at_, r⟩, a3.loose⟩
theorem e_dnew : PE X (.Dict [] [] pos) (rdE ((X.K, X.w) : KW) M (.dct .nil)) :=
  PE.imp pe_dnewN fun σ H Q ⟨T, F, ρ, Xp, Qp, rel, w, kn, xo⟩ => by
    rw [wpE, wpA] at w
    exact fun p n => (kn.ret (Sub.refl _) (Sub.refl _)).dct rel w.2 .nil n
end
end Pe
end

section
set_option maxRecDepth 100000
/-! Pe11: targets, what is walked, comprehensions. -/
namespace Pe
open PySem PySem.Spec PyProof.Rows L2

/-! ### targets -/
mutual
def slotsT : Tgt → List Nat
  | .nm i => [i]
  | .tp ts => slotsTs ts
def slotsTs : Tgts → List Nat
  | .nil => []
  | .cons t ts => slotsT t ++ slotsTs ts
end
def lenT : Tgts → Nat
  | .nil => 0
  | .cons _ ts => lenT ts + 1
mutual
theorem tgR_some : ∀ (t : Tgt) (d : D) (ρ : Rho) (Q : Rho → Prop), tgR t d ρ Q → ∃ ρ', Q ρ'
  | .nm i, d, ρ, Q, h => by
    rw [tgR] at h
    exact ⟨_, h⟩
  | .tp ts, d, ρ, Q, h => by
    cases d <;> first
      | (rw [tgR] at h; exact (tgsR_some ts _ ρ Q h).2)
      | exact False.elim h
theorem tgsR_some : ∀ (ts : Tgts) (ds : List D) (ρ : Rho) (Q : Rho → Prop), tgsR ts ds ρ Q → ds.length = lenT ts ∧ ∃ ρ', Q ρ'
  | .nil, ds, ρ, Q, h => by
    cases ds with
    | nil =>
      rw [tgsR] at h
      exact ⟨rfl, _, h⟩
    | cons d ds =>
      exact False.elim h
  | .cons t ts, ds, ρ, Q, h => by
    cases ds with
    | nil =>
      exact False.elim h
    | cons d ds =>
      rw [tgsR] at h
      obtain ⟨ρ1, h1⟩ := tgR_some t d ρ _ h
      obtain ⟨e, z⟩ := tgsR_some ts ds ρ1 Q h1
      exact ⟨by rw [List.length_cons, e]; rfl, z⟩
end
def rdG (K : KW) (t : Tgt) : TG := fun v σ H Q => ∃ T F ρ d Qp, Rel K T F H ρ σ ∧ Rep K F v d ∧ tgR t d ρ Qp ∧ ∀ ρ' σ', Qp ρ' → Rel K T F H ρ' σ' → σ'.length = σ.length → (∀ i, i ∉ slotsT t → σ'[i]? = σ[i]?) → Q σ' H
def rdGs (K : KW) (ts : Tgts) : TGs := fun vs σ H Q => ∃ T F ρ ds Qp, Rel K T F H ρ σ ∧ RepL K F vs ds ∧ tgsR ts ds ρ Qp ∧ ∀ ρ' σ', Qp ρ' → Rel K T F H ρ' σ' → σ'.length = σ.length → (∀ i, i ∉ slotsTs ts → σ'[i]? = σ[i]?) → Q σ' H
theorem PG.imp {X : Cx} {e : Expr} {t t' : TG} (h : PG X e t) (i : ∀ v σ H Q, t' v σ H Q → t v σ H Q) : PG X e t' := ⟨fun pins s σ H v u Q I r w => h.run pins s σ H v u Q I r (i _ _ _ _ w)⟩
theorem PGs.imp {X : Cx} {e : List Expr} {t t' : TGs} (h : PGs X e t) (i : ∀ v σ H Q, t' v σ H Q → t v σ H Q) : PGs X e t' := ⟨fun pins s σ H v u Q I r w => h.run pins s σ H v u Q I r (i _ _ _ _ w)⟩
theorem PG.or {X : Cx} {e : Expr} {t t' : TG} (h : PG X e t) (h' : PG X e t') : PG X e (fun v σ H Q => t v σ H Q ∨ t' v σ H Q) := ⟨fun pins s σ H v u Q I r w => w.elim (h.run pins s σ H v u Q I r) (h'.run pins s σ H v u Q I r)⟩
def isTgt : Expr → Bool
  | .Name .. => true
  | .Tuple .. => true
  | _ => false
section
variable {X : Cx} {M : Mean} {e : Expr} {es : List Expr} {pos : Pos} {t : Tgt} {ts : Tgts}
theorem asg_len : ∀ (es : List Expr) (env : Env), (assignEach es env).length = es.length
  | [], _ => rfl
  | e :: es, env => by
    cases e <;> (show (assignEach es env).length + 1 = es.length + 1; rw [asg_len])
theorem asg_cons {e : Expr} (h : isTgt e = true) (es : List Expr) (env : Env) : assignEach (e :: es) env = (false, assign e env) :: assignEach es env := by
  cases e <;> first | rfl | cases h
theorem asg_star : ∀ {es : List Expr}, es.all isTgt = true → ∀ env : Env, (assignEach es env).findIdx? (·.1) = none
  | [], _, _ => rfl
  | e :: es, h, env => by
    rw [List.all_cons, Bool.and_eq_true] at h
    rw [asg_cons h.1, List.findIdx?_cons]
    simp only [Bool.false_eq_true, if_false]
    rw [asg_star h.2]
    rfl
theorem g_nm {i : Nat} {x : Str} (hN : X.N.Nodup) (hi : X.N[i]? = some x) (hx : Loc X.env.scope x) (hf : X.fn x = true ∨ X.env.scope.names.lookup x = some .local) : PG X (.Name x pos) (rdG ((X.K, X.w) : KW) (.nm i)) :=
  PG.imp (pg_name hN hi hx hf) fun v σ H Q ⟨T, F, ρ, d, Qp, rel, rp, w, kn⟩ => by
    rw [tgR] at w
    exact kn _ _ w (rel.setIm i rp) (List.length_set ..) fun j hj => List.getElem?_set_ne (fun z => hj (by rw [z]; exact List.mem_singleton.mpr rfl))
theorem g_tp {k : Nat} (hc : X.calm = true) (h : PGs X es (rdGs ((X.K, X.w) : KW) ts)) (ha : es.all isTgt = true) (hl : es.length = lenT ts) : PG X (.Tuple es k pos) (rdG ((X.K, X.w) : KW) (.tp ts)) :=
  PG.imp (PG.or (pg_tup hc h ((asg_len es _).trans hl) (asg_star ha _)) (pg_lst hc h ((asg_len es _).trans hl) (asg_star ha _))) fun v σ H Q ⟨T, F, ρ, d, Qp, rel, rp, w, kn⟩ => by
    cases rp with
    | tup h1 r =>
      rw [tgR] at w
      exact .inl ⟨_, _, rfl, rel.fin.fh.sqT h1, r.length.trans (tgsR_some _ _ _ _ w).1, T, F, ρ, _, Qp, rel, r, w, kn⟩
    | lst h1 r =>
      rw [tgR] at w
      exact .inr ⟨_, _, rfl, .inl (rel.fin.fh.rd h1), r.length.trans (tgsR_some _ _ _ _ w).1, T, F, ρ, _, Qp, rel, r, w, kn⟩
    | _ => exact False.elim w
theorem gs_nil : PGs X [] (rdGs ((X.K, X.w) : KW) .nil) := PGs.imp pgs_nil fun vs σ H Q ⟨T, F, ρ, ds, Qp, rel, rp, w, kn⟩ => by
  cases rp with
  | nil =>
    rw [tgsR] at w
    exact ⟨rfl, kn _ _ w rel rfl fun _ _ => rfl⟩
  | cons _ _ =>
    exact False.elim w
theorem gs_cons (h1 : PG X e (rdG ((X.K, X.w) : KW) t)) (h2 : PGs X es (rdGs ((X.K, X.w) : KW) ts)) (ha : isTgt e = true) : PGs X (e :: es) (rdGs ((X.K, X.w) : KW) (.cons t ts)) :=
  PGs.imp (pgs_cons h1 h2 (by rw [asg_cons ha]; rfl)) fun vs σ H Q ⟨T, F, ρ, ds, Qp, rel, rp, w, kn⟩ => by
    cases rp with
    | nil =>
      exact False.elim w
    | cons r rr =>
      rw [tgsR] at w
      refine ⟨_, _, rfl, T, F, ρ, _, _, rel, r, w, fun ρ1 σ1 w1 rel1 l1 e1 => ⟨T, F, ρ1, _, Qp, rel1, rr, w1, fun ρ2 σ2 w2 rel2 l2 e2 => kn ρ2 σ2 w2 rel2 (l2.trans l1) fun i hi => ?_⟩⟩
      have hi' : i ∉ slotsT t ++ slotsTs ts := hi
      rw [List.mem_append] at hi'
      rw [e2 i fun z => hi' (.inr z), e1 i fun z => hi' (.inl z)]
end

/-! ### what is walked -/
def rdI (K : KW) (M : Mean) (k : Ik) (it : CEs) : TI := fun σ H R => ∃ (T : At) (F : Hp) (ρ : Rho) (Xp : Nat → Prop) (Qp : List D → Rho → Prop), Rel K T F H ρ σ ∧ wpA M.G M.Γ Xp it ρ (fun ds ρ1 => ikR k ds fun xs => Qp xs ρ1) ∧
  (∀ xs ρ1, Qp xs ρ1 → ∀ F' H' J S', Rel K T F' H' ρ1 σ → Sub F F' → Sub H H' → Gives K J xs S' → S' F' → R J H') ∧ XOk M T Xp
theorem PI.imp {X : Cx} {tg e : Expr} {t t' : TI} (h : PI X tg e t) (i : ∀ σ H Q, t' σ H Q → t σ H Q) : PI X tg e t' := ⟨fun pins s σ H R I w => h.run pins s σ H R I (i _ _ _ w)⟩
section
variable {X : Cx} {M : Mean} {tg a b c e : Expr} {ra rb rc : CE} {es : List Expr} {res : CEs} {pos p apos cpos : Pos} {td : TE}
theorem i_seq (ha : PE X a (rdE ((X.K, X.w) : KW) M ra)) : PI X tg a (rdI ((X.K, X.w) : KW) M .seq (.cons ra .nil)) :=
  PI.imp (pi_seq (w := X.w) ha) fun σ H R ⟨T, F, ρ, Xp, Qp, rel, w, kn, xo⟩ => by
    rw [wpA] at w
    refine ⟨T, F, ρ, Xp, _, rel, w, fun x s ρ1 w1 F1 H1 v rel1 f1 h1 ok1 => ?_, xo⟩
    obtain ⟨F2, f2, rel2, rp⟩ := rel1.frz ok1
    change ikR .seq [x] _ at w1
    cases rp with
    | lst h r => exact .inl ⟨_, _, rfl, .inl (rel2.fin.fh.rd h), kn _ _ w1 F2 H1 _ _ rel2 (f1.trans f2) h1 gives_list ⟨h, r⟩⟩
    | tup h r => exact .inr (.inl ⟨_, _, rfl, rel2.fin.fh.sqT h, kn _ _ w1 F2 H1 _ _ rel2 (f1.trans f2) h1 gives_tup ⟨h, r⟩⟩)
    | str z => exact .inr (.inr ⟨z, rfl, kn _ _ w1 F2 H1 _ _ rel2 (f1.trans f2) h1 gives_str trivial⟩)
    | _ => exact False.elim w1
theorem i_range1 (hg : Gl X "range") (hm : X.mg "range" = none) (ha : PE X a (rdE ((X.K, X.w) : KW) M ra)) (na : notStar a = true) : PI X tg (.Call (.Name "range" p) [a] [] pos) (rdI ((X.K, X.w) : KW) M .range (.cons ra .nil)) :=
  PI.imp (pi_range1 hg hm (pa_cons ha pa_nil (star_cons na _ _)) (star_cons na _ _)) fun σ H R ⟨T, F, ρ, Xp, Qp, rel, w, kn, xo⟩ => by
    rw [wpA] at w
    refine ⟨T, F, ρ, Xp, _, rel, w, fun x s ρ1 w1 F1 H1 v rel1 f1 h1 ok1 => ?_, xo⟩
    obtain ⟨F2, f2, rel2, rp⟩ := rel1.frz ok1
    change ikR .range [x] _ at w1
    cases rp with
    | int i => exact ⟨i, rfl, w1.1.1, w1.1.2, kn _ _ w1.2 F2 H1 _ _ rel2 (f1.trans f2) h1 gives_range trivial⟩
    | _ => exact False.elim w1
theorem i_range2 (hg : Gl X "range") (hm : X.mg "range" = none) (ha : PE X a (rdE ((X.K, X.w) : KW) M ra)) (hb : PE X b (rdE ((X.K, X.w) : KW) M rb)) (na : notStar a = true) (nb : notStar b = true) : PI X tg (.Call (.Name "range" p) [a, b] [] pos) (rdI ((X.K, X.w) : KW) M .range (.cons ra (.cons rb .nil))) :=
  PI.imp (pi_range2 hg hm (pa_cons ha (pa_cons hb pa_nil (star_cons nb _ _)) (star_cons na _ _)) (by rw [star_cons na, star_cons nb]; rfl) (star_cons nb _ _)) fun σ H R ⟨T, F, ρ, Xp, Qp, rel, w, kn, xo⟩ => by
    rw [wpA] at w
    refine ⟨T, F, ρ, Xp, _, rel, w, fun x s ρ1 w1 F1 H1 v rel1 f1 h1 ok1 => ?_, xo⟩
    obtain ⟨F2, f2, rel2, rp⟩ := rel1.frz ok1
    dsimp only at w1
    rw [wpA] at w1
    refine ⟨T, F2, _, Xp, _, rel2, w1, fun y s3 ρ3 w3 F3 H3 v3 rel3 f3 h3 ok3 => ?_, xo⟩
    obtain ⟨F4, f4, rel4, rp4⟩ := rel3.frz ok3
    change ikR .range [x, y] _ at w3
    cases rp with
    | int i =>
      cases rp4 with
      | int j => exact ⟨i, j, rfl, ⟨w3.1.1, w3.1.2, w3.2.1.1, w3.2.1.2⟩, kn _ _ w3.2.2 F4 H3 _ _ rel4 (f1.trans (f2.trans (f3.trans f4))) (h1.trans h3) gives_range trivial⟩
      | _ => exact False.elim w3
    | _ => exact False.elim w3
theorem i_range3 (hg : Gl X "range") (hm : X.mg "range" = none) (ha : PE X a (rdE ((X.K, X.w) : KW) M ra)) (hb : PE X b (rdE ((X.K, X.w) : KW) M rb)) (hc : PE X c (rdE ((X.K, X.w) : KW) M rc)) (na : notStar a = true) (nb : notStar b = true) (nc : notStar c = true) :
    PI X tg (.Call (.Name "range" p) [a, b, c] [] pos) (rdI ((X.K, X.w) : KW) M .range (.cons ra (.cons rb (.cons rc .nil)))) :=
  PI.imp (pi_range3 hg hm (pa_cons ha (pa_cons hb (pa_cons hc pa_nil (star_cons nc _ _)) (star_cons nb _ _)) (star_cons na _ _)) (star_cons na _ _) (star_all (by simp [nb, nc]) _ _)) fun σ H R ⟨T, F, ρ, Xp, Qp, rel, w, kn, xo⟩ => by
    rw [wpA] at w
    refine ⟨T, F, ρ, Xp, _, rel, w, fun x s ρ1 w1 F1 H1 v rel1 f1 h1 ok1 => ?_, xo⟩
    obtain ⟨F2, f2, rel2, rp⟩ := rel1.frz ok1
    dsimp only at w1
    rw [wpA] at w1
    refine ⟨T, F2, _, Xp, _, rel2, w1, fun y s3 ρ3 w3 F3 H3 v3 rel3 f3 h3 ok3 => ?_, xo⟩
    obtain ⟨F4, f4, rel4, rp4⟩ := rel3.frz ok3
    dsimp only at w3
    rw [wpA] at w3
    refine ⟨T, F4, _, Xp, _, rel4, w3, fun z s5 ρ5 w5 F5 H5 v5 rel5 f5 h5 ok5 => ?_, xo⟩
    obtain ⟨F6, f6, rel6, rp6⟩ := rel5.frz ok5
    change ikR .range [x, y, z] _ at w5
    cases rp with
    | int i =>
      cases rp4 with
      | int j =>
        cases rp6 with
        | int k =>
          obtain ⟨q1, q2, rfl, q3⟩ := w5
          exact ⟨i, j, -1, _, rfl, RgC.neg q1.1 q1.2 q2.1 q2.2, kn _ _ q3 F6 H5 _ _ rel6 (f1.trans (f2.trans (f3.trans (f4.trans (f5.trans f6))))) (h1.trans (h3.trans h5)) gives_down trivial⟩
        | _ => exact False.elim w5
      | _ => exact False.elim w5
    | _ => exact False.elim w5

/-! dicts: locked for good -/
theorem keys_go {pins : List (Addr × Obj)} {σ : L2.St} {H : Hp} {s : Shared} {R : It → Hp → Prop} {d : Addr} {o : Obj} {xs : DX} (I1 : Inv X pins σ H s) (hd : H d = some (.frz o (dN X.w d xs))) (q : R (Itkn X.w d o xs) H) :
    wpAny (model X.prog X.w) X.A (pyIter (.ref d)) (PIE X pins σ tg R) X.xe s := by
  obtain ⟨hs, hgd, hx, es, ep, hdt, hsz, ent⟩ := frzN I1 hd
  refine iter_keys hs hgd hx hdt (pi_one (tk := s.toks) I1 _ (turn_keysN _ hdt) ⟨_, Heap.get?_push_size _ rfl, rfl, ?_⟩ q)
  rw [hsz] <;> rfl
def iDictL (w : World) (J : Addr → Obj → DX → It) (td : TE) : TI := fun σ H R => td σ H fun x H1 => ∃ d xs, x = .ref d ∧ ((∃ o, H1 d = some (.frz o (dN w d xs)) ∧ R (J d o xs) H1) ∨ (H1 d = some (dN w d xs) ∧ ∀ o, R (J d o xs) (upd H1 d (.frz o (dN w d xs)))))
theorem pi_keysL (he : PE X e td) : PI X tg e (iDictL X.w (Itkn X.w) td) := by
  refine ⟨fun pins s σ H R I h => ?_⟩
  refine thn (he.run pins s σ H _ I h) fun u s1 ⟨x, H1, I1, rx, d, xs, ex, hd⟩ => ?_
  subst ex
  obtain rfl : u = Value.ref d := rx
  rcases hd with ⟨o, hd, q⟩ | ⟨hd, q⟩
  · exact keys_go I1 hd q
  · obtain ⟨od, I2⟩ := I1.lock hd trivial
    exact keys_go I2 upd_same (q od)
theorem items_go {pins : List (Addr × Obj)} {σ : L2.St} {H : Hp} {s : Shared} {R : It → Hp → Prop} {d : Addr} {o : Obj} {xs : DX} {elts : List Expr} {kk : Nat} {tpos : Pos} (I1 : Inv X pins σ H s) (hd : H d = some (.frz o (dN X.w d xs))) (q : R (Itin X.w d o xs) H) :
    wpAny (model X.prog X.w) X.A (callWith cpos (.builtin "dict.items") [.ref d] [] []) (fun v s' => wpAny (model X.prog X.w) X.A (pyIter v) (PIE X pins σ (.Tuple elts kk tpos) R) X.xe s') X.xe s := by
  obtain ⟨hs, hgd, hx, es, ep, hdt, hsz, ent⟩ := frzN I1 hd
  have raw : DT.Raw s.heap d es ep := ⟨_, hgd, hx, hdt⟩
  have I2 : Inv X pins σ H { s with heap := s.heap.push { cls := .type "dict_items", data := .fields #[.ref d] } } := I1.kept (t' := s.toks) fun b ob q => Heap.get?_push_of_some _ q
  have fin : wpAny (model X.prog X.w) X.A (pyIter (.ref s.heap.objs.size)) (PIE X pins σ (.Tuple elts kk tpos) R) X.xe { s with heap := s.heap.push { cls := .type "dict_items", data := .fields #[.ref d] } } := by
    refine DT.iterI (es := es) (ep := ep) ⟨_, Heap.get?_push_size _ rfl, rfl, rfl⟩ (raw.push _) (pi_one (tk := s.toks) I2 _ (turn_itemsN _ hdt) ⟨.none, .none, ?_⟩ q)
    rw [← hsz]
    exact Heap.get?_push_size _ rfl
  exact method_meetsIn F.slot_dict_items F.entry_dict_items rfl (PySem.evalArgs_none ⟨rfl, raw.typeIs, F.args_dict_items_1 _, _, DT.meetsItems (es := es) (ep := ep) hs, raw, fin⟩)
theorem pi_itemsL {elts : List Expr} {kk : Nat} {tpos : Pos} (he : PE X e td) (hbase : attributeBase e "items" X.env (eval e X.env) = eval e X.env) (hline : (apos.endLine == cpos.line) = true) :
    PI X (.Tuple elts kk tpos) (.Call (.Attribute e "items" apos) [] [] cpos) (iDictL X.w (Itin X.w) td) := by
  refine ⟨fun pins s σ H R I h => ?_⟩
  refine wpAny_Call_method (T := "dict") (id := "dict.items") hbase rfl hline F.plainAttrs_dict F.slot_dict_items F.type_dict_items (thn (he.run pins s σ H _ I h) fun u s1 ⟨x, H1, I1, rx, d, xs, ex, hd⟩ => ?_)
  subst ex
  obtain rfl : u = Value.ref d := rx
  rcases hd with ⟨o, hd, q⟩ | ⟨hd, q⟩
  · obtain ⟨hs, hgd, hx, es, ep, hdt, hsz, ent⟩ := frzN I1 hd
    have raw : DT.Raw s1.heap d es ep := ⟨_, hgd, hx, hdt⟩
    exact ⟨raw.typeIs, fun a e => by cases e; exact ⟨_, hgd, hx.2.1⟩, items_go I1 hd q⟩
  · obtain ⟨od, I2⟩ := I1.lock hd trivial
    obtain ⟨hs, hgd, hx, es, ep, hdt, hsz, ent⟩ := frzN I2 upd_same
    have raw : DT.Raw s1.heap d es ep := ⟨_, hgd, hx, hdt⟩
    exact ⟨raw.typeIs, fun a e => by cases e; exact ⟨_, hgd, hx.2.1⟩, items_go I2 upd_same (q od)⟩
end
/-- a dict that stands for good is locked -/
theorem Rel.lock {K : KW} {T : At} {F H : Hp} {ρ : Rho} {σ : L2.St} {d : Addr} {xs : DX} (rel : Rel K T F H ρ σ) (hd : Rd F d (dN K.2 d xs)) :
    (∃ o F', H d = some (.frz o (dN K.2 d xs)) ∧ F' d = some (.frz o (dN K.2 d xs)) ∧ Sub F F' ∧ Rel K T F' H ρ σ) ∨ (H d = some (dN K.2 d xs) ∧ ∀ o, ∃ F', F' d = some (.frz o (dN K.2 d xs)) ∧ Sub F F' ∧ Sub H (upd H d (.frz o (dN K.2 d xs))) ∧ Rel K T F' (upd H d (.frz o (dN K.2 d xs))) ρ σ) := by
  rcases hd with hd | ⟨o, hd⟩
  · have sF : ∀ o, Sub F (upd F d (.frz o (dN K.2 d xs))) := fun o a u e => by
      by_cases h : a = d
      · subst h
        rw [hd] at e
        cases e
        exact ⟨_, upd_same, .inr ⟨trivial, o, rfl⟩⟩
      · exact ⟨u, by rw [upd_ne h]; exact e, .inl rfl⟩
    have own' : ∀ {p : Addr}, Ours T F p → p ≠ d := fun o z => by rw [z, ] at o; rw [o.f] at hd; cases hd
    obtain ⟨o', h1, l⟩ := rel.fin.fh _ _ hd
    rcases l with rfl | ⟨_, od, rfl⟩
    · refine .inr ⟨h1, fun o => ⟨upd F d (.frz o (dN K.2 d xs)), upd_same, sF o, fun a u e => ?_, ⟨⟨fun a u e => ?_, rel.fin.base.trans (sF o), fun a m n => ?_, fun a u e => ?_⟩, rel.len, fun i t e => ?_, fun i t e => ?_, rel.inj⟩⟩⟩
      · by_cases h : a = d
        · subst h
          rw [h1] at e
          cases e
          exact ⟨_, upd_same, .inr ⟨trivial, o, rfl⟩⟩
        · exact ⟨u, by rw [upd_ne h]; exact e, .inl rfl⟩
      · by_cases h : a = d
        · subst h
          rcases rel.fin.keep a u e with e2 | ⟨_, _, od, e2⟩
          · rw [h1] at e2
            cases e2
            refine .inr ⟨fun z => ?_, trivial, o, upd_same⟩
            have := rel.fin.old a (by rw [e]; trivial) z
            rw [hd] at this
            cases this
          · rw [h1] at e2
            cases e2
        · rw [upd_ne h]
          exact rel.fin.keep a u e
      · have := rel.fin.old a m n
        have h : a ≠ d := fun z => by rw [z, hd] at this; cases this
        rw [upd_ne h]
        exact this
      · by_cases h : a = d
        · subst h
          rw [upd_same] at e ⊢
          exact ⟨_, e, .inl rfl⟩
        · rw [upd_ne h] at e ⊢
          exact rel.fin.fh a u e
      · obtain ⟨v, z1, z2⟩ := rel.im i t e
        exact ⟨v, z1, z2.mono (sF o)⟩
      · obtain ⟨p, z1, z2, z3⟩ := rel.own i t e
        have hne := own' z2
        exact ⟨p, z1, ⟨by rw [upd_ne hne]; exact z2.f, z2.h0⟩, z3.step (sF o) (upd_ne hne)⟩
    · refine .inl ⟨od, upd F d (.frz od (dN K.2 d xs)), h1, upd_same, sF od, ⟨⟨rel.fin.keep, rel.fin.base.trans (sF od), fun a m n => ?_, fun a u e => ?_⟩, rel.len, fun i t e => ?_, fun i t e => ?_, rel.inj⟩⟩
      · have := rel.fin.old a m n
        have h : a ≠ d := fun z => by rw [z, hd] at this; cases this
        rw [upd_ne h]
        exact this
      · by_cases h : a = d
        · subst h
          rw [upd_same] at e
          exact ⟨_, h1.trans e, .inl rfl⟩
        · rw [upd_ne h] at e
          exact rel.fin.fh a u e
      · obtain ⟨v, z1, z2⟩ := rel.im i t e
        exact ⟨v, z1, z2.mono (sF od)⟩
      · obtain ⟨p, z1, z2, z3⟩ := rel.own i t e
        have hne := own' z2
        exact ⟨p, z1, ⟨by rw [upd_ne hne]; exact z2.f, z2.h0⟩, z3.step (sF od) rfl⟩
  · exact .inl ⟨o, F, rel.fin.fh.frz hd, hd, Sub.refl _, rel⟩
section
variable {X : Cx} {M : Mean} {tg a b c e : Expr} {ra rb rc : CE} {es : List Expr} {res : CEs} {pos p apos cpos : Pos} {td : TE}
theorem i_keys (ha : PE X a (rdE ((X.K, X.w) : KW) M ra)) : PI X tg a (rdI ((X.K, X.w) : KW) M .keys (.cons ra .nil)) :=
  PI.imp (pi_keysL ha) fun σ H R ⟨T, F, ρ, Xp, Qp, rel, w, kn, xo⟩ => by
    rw [wpA] at w
    refine ⟨T, F, ρ, Xp, _, rel, w, fun x s ρ1 w1 F1 H1 v rel1 f1 h1 ok1 => ?_, xo⟩
    obtain ⟨F2, f2, rel2, rp⟩ := rel1.frz ok1
    change ikR .keys [x] _ at w1
    cases rp with
    | @dN p0 kvs0 ds0 h r =>
      refine ⟨p0, kvs0, rfl, ?_⟩
      rcases rel2.lock h with ⟨o, F3, z1, z2, z3, rel3⟩ | ⟨z1, z2⟩
      · exact .inl ⟨o, z1, kn _ _ w1 F3 H1 _ _ rel3 (f1.trans (f2.trans z3)) h1 (gives_keys (K := ((X.K, X.w) : KW)) (o := o)) ⟨z2, r.mono z3⟩⟩
      · refine .inr ⟨z1, fun o => ?_⟩
        obtain ⟨F3, q1, q2, q3, rel3⟩ := z2 o
        exact kn _ _ w1 F3 _ _ _ rel3 (f1.trans (f2.trans q2)) (h1.trans q3) (gives_keys (K := ((X.K, X.w) : KW)) (o := o)) ⟨q1, r.mono q2⟩
    | _ => exact False.elim w1
theorem i_items {elts : List Expr} {kk : Nat} {tpos : Pos} (ha : PE X a (rdE ((X.K, X.w) : KW) M ra)) (hn : isName a = true) (hl : (apos.endLine == cpos.line) = true) : PI X (.Tuple elts kk tpos) (.Call (.Attribute a "items" apos) [] [] cpos) (rdI ((X.K, X.w) : KW) M .items (.cons ra .nil)) :=
  PI.imp (pi_itemsL ha (base_name hn _ _ _) hl) fun σ H R ⟨T, F, ρ, Xp, Qp, rel, w, kn, xo⟩ => by
    rw [wpA] at w
    refine ⟨T, F, ρ, Xp, _, rel, w, fun x s ρ1 w1 F1 H1 v rel1 f1 h1 ok1 => ?_, xo⟩
    obtain ⟨F2, f2, rel2, rp⟩ := rel1.frz ok1
    change ikR .items [x] _ at w1
    cases rp with
    | @dN p0 kvs0 ds0 h r =>
      refine ⟨p0, kvs0, rfl, ?_⟩
      rcases rel2.lock h with ⟨o, F3, z1, z2, z3, rel3⟩ | ⟨z1, z2⟩
      · exact .inl ⟨o, z1, kn _ _ w1 F3 H1 _ _ rel3 (f1.trans (f2.trans z3)) h1 (gives_items (K := ((X.K, X.w) : KW)) (o := o)) ⟨z2, r.mono z3⟩⟩
      · refine .inr ⟨z1, fun o => ?_⟩
        obtain ⟨F3, q1, q2, q3, rel3⟩ := z2 o
        exact kn _ _ w1 F3 _ _ _ rel3 (f1.trans (f2.trans q2)) (h1.trans q3) (gives_items (K := ((X.K, X.w) : KW)) (o := o)) ⟨q1, r.mono q2⟩
    | _ => exact False.elim w1
end
end Pe
end

section
set_option maxRecDepth 100000
/-! Pe12: comprehensions. -/
namespace Pe
open PySem PySem.Spec PyProof.Rows L2

theorem wipeE_length (ρ : Rho) : ∀ vs : List Nat, (wipeE ρ vs).length = ρ.length
  | [] => rfl
  | v :: vs => by unfold wipeE; rw [List.length_set, wipeE_length ρ vs]
theorem backE_length (ρ₀ ρ : Rho) : ∀ vs : List Nat, (backE ρ₀ ρ vs).length = ρ.length
  | [] => rfl
  | v :: vs => by unfold backE; rw [List.length_set, backE_length ρ₀ ρ vs]
theorem wipeE_out {ρ : Rho} {i : Nat} : ∀ {vs : List Nat}, i ∉ vs → (wipeE ρ vs)[i]? = ρ[i]?
  | [], _ => rfl
  | v :: vs, h => by
    have h1 : v ≠ i := fun e => h (by rw [e]; exact List.mem_cons_self)
    unfold wipeE
    rw [List.getElem?_set_ne h1, wipeE_out fun z => h (List.mem_cons_of_mem _ z)]
theorem wipeE_get {ρ : Rho} {i : Nat} {s : Slot} : ∀ {vs : List Nat}, (wipeE ρ vs)[i]? = some s → s = .un ∨ (ρ[i]? = some s ∧ i ∉ vs)
  | [], h => .inr ⟨h, by simp⟩
  | v :: vs, h => by
    unfold wipeE at h
    by_cases hv : v = i
    · subst hv
      rw [List.getElem?_set] at h
      simp only [if_true] at h
      split at h
      · exact .inl (Option.some.inj h).symm
      · cases h
    · rw [List.getElem?_set_ne hv] at h
      rcases wipeE_get h with h | ⟨h, n⟩
      · exact .inl h
      · exact .inr ⟨h, fun z => (List.mem_cons.mp z).elim (fun e => hv e.symm) n⟩
theorem backE_out {ρ₀ ρ : Rho} {i : Nat} : ∀ {vs : List Nat}, i ∉ vs → (backE ρ₀ ρ vs)[i]? = ρ[i]?
  | [], _ => rfl
  | v :: vs, h => by
    have h1 : v ≠ i := fun e => h (by rw [e]; exact List.mem_cons_self)
    unfold backE
    rw [List.getElem?_set_ne h1, backE_out fun z => h (List.mem_cons_of_mem _ z)]
theorem backE_in {ρ₀ ρ : Rho} {i : Nat} {s : Slot} : ∀ {vs : List Nat}, i ∈ vs → (backE ρ₀ ρ vs)[i]? = some s → s = .un ∨ ∃ d, s = .im d ∧ ρ₀.getD i .un = .im d
  | v :: vs, h, e => by
    unfold backE at e
    by_cases hv : v = i
    · subst hv
      rw [List.getElem?_set] at e
      simp only [if_true] at e
      split at e
      · have z := Option.some.inj e
        split at z
        · rename_i d q
          exact .inr ⟨d, z.symm, q⟩
        · exact .inl z.symm
      · cases e
    · rw [List.getElem?_set_ne hv] at e
      exact backE_in ((List.mem_cons.mp h).resolve_left fun z => hv z.symm) e
theorem getD_im {ρ : Rho} {i : Nat} {d : D} (h : ρ.getD i .un = .im d) : ρ[i]? = some (.im d) := by
  rw [List.getD_eq_getElem?_getD] at h
  cases q : ρ[i]? with
  | none =>
    rw [q] at h
    cases h
  | some z =>
    rw [q] at h
    exact congrArg some h
section
variable {K : KW} {T : At} {F H F1 H1 : Hp} {ρ ρ1 : Rho} {σ σ2 : L2.St} {q : Addr} {o : HO}
theorem Rel.wipe (x : Rel K T F H ρ σ) (vs : List Nat) : Rel K T F H (wipeE ρ vs) (L2.wipe σ vs) where
  fin := x.fin
  len := by rw [wipeE_length, wipe_length]; exact x.len
  im := fun i d e => by
    rcases wipeE_get e with z | ⟨e, n⟩
    · cases z
    · obtain ⟨v, h1, h2⟩ := x.im i d e
      exact ⟨v, by rw [wipe_out n]; exact h1, h2⟩
  own := fun i d e => by
    rcases wipeE_get e with z | ⟨e, n⟩
    · cases z
    · obtain ⟨v, h1, h2⟩ := x.own i d e
      exact ⟨v, by rw [wipe_out n]; exact h1, h2⟩
  inj := fun i j d e p e1 e2 s1 s2 => by
    rcases wipeE_get e1 with z | ⟨e1, n1⟩
    · cases z
    rcases wipeE_get e2 with z | ⟨e2, n2⟩
    · cases z
    rw [wipe_out n1] at s1
    rw [wipe_out n2] at s2
    exact x.inj i j d e p e1 e2 s1 s2
theorem Rel.back {vs : List Nat} (x : Rel K T F H (wipeE ρ vs) (L2.wipe σ vs)) (y : Rel K T F1 H1 ρ1 σ) (f : Sub F1 F) : Rel K T F H (backE ρ1 ρ vs) σ where
  fin := x.fin
  len := by
    have h := x.len
    rw [wipeE_length, wipe_length] at h
    rw [backE_length]
    exact h
  im := fun i d e => by
    by_cases h : i ∈ vs
    · rcases backE_in h e with z | ⟨d', z, q⟩
      · cases z
      · cases z
        obtain ⟨v, h1, h2⟩ := y.im i d (getD_im q)
        exact ⟨v, h1, h2.mono f⟩
    · rw [backE_out h] at e
      obtain ⟨v, h1, h2⟩ := x.im i d (by rw [wipeE_out h]; exact e)
      rw [wipe_out h] at h1
      exact ⟨v, h1, h2⟩
  own := fun i d e => by
    by_cases h : i ∈ vs
    · rcases backE_in h e with z | ⟨d', z, q⟩
      · cases z
      · cases z
    · rw [backE_out h] at e
      obtain ⟨v, h1, h2⟩ := x.own i d (by rw [wipeE_out h]; exact e)
      rw [wipe_out h] at h1
      exact ⟨v, h1, h2⟩
  inj := fun i j d e p e1 e2 s1 s2 => by
    have hi : i ∉ vs := fun h => by
      rcases backE_in h e1 with z | ⟨d', z, q⟩ <;> cases z
    have hj : j ∉ vs := fun h => by
      rcases backE_in h e2 with z | ⟨d', z, q⟩ <;> cases z
    rw [backE_out hi] at e1
    rw [backE_out hj] at e2
    exact x.inj i j d e p (by rw [wipeE_out hi]; exact e1) (by rw [wipeE_out hj]; exact e2) (by rw [wipe_out hi]; exact s1) (by rw [wipe_out hj]; exact s2)
theorem Aside.wipe (x : Aside K T F H ρ σ q o) (vs : List Nat) : Aside K T F H (wipeE ρ vs) (L2.wipe σ vs) q o where
  rel := x.rel.wipe vs
  at_ := x.at_
  f := x.f
  h0 := x.h0
  f0 := x.f0
  loose := fun i d e h => by
    rcases wipeE_get e with z | ⟨e, n⟩
    · cases z
    · rw [wipe_out n] at h
      exact x.loose i d e h
  mt := x.mt
theorem Loose.back {vs : List Nat} (x : Loose (wipeE ρ vs) (L2.wipe σ vs) q) : Loose (backE ρ1 ρ vs) σ q := fun i d e h => by
  by_cases hi : i ∈ vs
  · rcases backE_in hi e with z | ⟨d', z, _⟩ <;> cases z
  · rw [backE_out hi] at e
    exact x i d (by rw [wipeE_out hi]; exact e) (by rw [wipe_out hi]; exact h)
theorem wipe_eq {vs : List Nat} (hl : σ2.length = σ.length) (h : ∀ i, i ∉ vs → σ2[i]? = σ[i]?) : L2.wipe σ2 vs = L2.wipe σ vs := by
  apply List.ext_getElem?
  intro i
  by_cases hi : i ∈ vs
  · have go : ∀ (l : List Nat) (σ σ2 : L2.St), σ2.length = σ.length → i ∈ l → (L2.wipe σ2 l)[i]? = (L2.wipe σ l)[i]? := by
      intro l
      induction l with
      | nil => intro _ _ _ h; cases h
      | cons v l ih =>
        intro σ σ2 hl h
        unfold L2.wipe
        by_cases hv : v = i
        · subst hv
          rw [List.getElem?_set, List.getElem?_set, wipe_length, wipe_length, hl, if_pos rfl, if_pos rfl]
        · rw [List.getElem?_set_ne hv, List.getElem?_set_ne hv]
          exact ih σ σ2 hl ((List.mem_cons.mp h).resolve_left fun z => hv z.symm)
    exact go vs σ σ2 hl hi
  · rw [wipe_out hi, wipe_out hi]
    exact h i hi
end
/-- a comprehension's condition -/
def rdC (K : KW) (M : Mean) (c : CEs) : TT := fun σ H Q => ∃ (T : At) (F : Hp) (ρ : Rho) (Qp : Bool → Rho → Prop), Rel K T F H ρ σ ∧ wpR M.G M.Γ (fun _ => False) c ρ (fun ts ρ' => ∃ b, condB ts = some b ∧ Qp b ρ') ∧ ∀ b ρ', Qp b ρ' → ∀ F' H', Rel K T F' H' ρ' σ → Sub F F' → Sub H H' → Q b H'
theorem PTs.imp {X : Cx} {e : List Expr} {t t' : TT} (h : PTs X e t) (i : ∀ σ H Q, t' σ H Q → t σ H Q) : PTs X e t' := ⟨fun pins s σ H Q I w => h.run pins s σ H Q I (i _ _ _ w)⟩
def Mean.calm (M : Mean) : Mean := { M with xE := fun _ _ => False }
section
variable {X : Cx} {M : Mean} {tg a b c e elt iter : Expr} {ifs : List Expr} {ra rb rc re : CE} {rcs rit : CEs} {es : List Expr} {pos p : Pos} {k : Ik} {t : Tgt}
theorem xo_no {T : At} : XOk M T fun _ => False := fun _ h => h.elim
theorem c_no : PTs X [] (rdC ((X.K, X.w) : KW) M .nil) := PTs.imp pts_nil fun σ H Q ⟨T, F, ρ, Qp, rel, w, kn⟩ => by
  rw [wpR] at w
  obtain ⟨b, e, w⟩ := w
  cases e
  exact kn _ _ w F H rel (Sub.refl _) (Sub.refl _)
theorem c_one (h : PT X a (rdT ((X.K, X.w) : KW) M ra)) : PTs X [a] (rdC ((X.K, X.w) : KW) M (.cons ra .nil)) := PTs.imp (pts_one h) fun σ H Q ⟨T, F, ρ, Qp, rel, w, kn⟩ => by
  rw [wpR] at w
  refine ⟨T, F, ρ, fun _ => False, _, rel, w, fun d s ρ1 w1 => ?_, xo_no⟩
  change ∃ b, condB [d] = some b ∧ Qp b ρ1 at w1
  obtain ⟨b, e, w1⟩ := w1
  cases d with
  | bool b' =>
    cases e
    exact ⟨_, rfl, fun F' H' rel' f h => kn _ ρ1 w1 F' H' rel' f h⟩
  | _ => cases e
/-- the loop of a comprehension -/
theorem comp_core {σ : L2.St} {H : Hp} {Q : VK} {T : At} {F F1 H1 : Hp} {ρ1 : Rho} {Qp : Pe.D → Src → Rho → Prop} {vs : List Nat} {xs : List Pe.D} {J : It} {S' : Hp → Prop} {q : Addr}
    {tn : Pe.D → Rho → (Option Pe.D → Rho → Prop) → Prop} (htn : ∀ x ρ K, tn x ρ K = turnR (fun x ρ2 Q => tgR t x (wipeE ρ2 vs) Q) (fun ρ3 Q => wpR M.G M.Γ (fun _ => False) rcs ρ3 Q) (fun ρ4 Q => wpE M.G M.Γ (fun _ => False) re ρ4 Q) x ρ K)
    (hsub : ∀ i ∈ slotsT t, i ∈ vs) (kn : Kn ((X.K, X.w) : KW) T F H σ Qp Q) (rel1 : Rel ((X.K, X.w) : KW) T F1 H1 ρ1 σ) (f1 : Sub F F1) (h1 : Sub H H1) (gv : Gives ((X.K, X.w) : KW) J xs S') (hq : H1 q = none)
    {i m : Nat} {H2 F2 : Hp} {ρ2 : Rho} {acc : List Pe.D} {vsl : List V} (hm : m + i = xs.length) (f2 : Sub F1 F2) (h2 : Sub H1 H2) (as : Aside ((X.K, X.w) : KW) T F2 H2 (wipeE ρ2 vs) (L2.wipe σ vs) q (.lst vsl)) (rv : RepL ((X.K, X.w) : KW) F2 vsl acc) (s2 : S' F2)
    (cr : compR tn (xs.drop i) acc ρ2 fun ds ρ' => Qp (.list ds) .fr (backE ρ1 ρ' vs)) {Nx : Hp → Prop}
    (hNx : ∀ H' F2 ρ2 acc vsl, 0 < m → Sub F1 F2 → Sub H1 H' → Aside ((X.K, X.w) : KW) T F2 H' (wipeE ρ2 vs) (L2.wipe σ vs) q (.lst vsl) → RepL ((X.K, X.w) : KW) F2 vsl acc → S' F2 → (compR tn (xs.drop (i + 1)) acc ρ2 fun ds ρ' => Qp (.list ds) .fr (backE ρ1 ρ' vs)) → Nx H') :
    (J.stop i H2 ∧ Q (.ref q) H2) ∨ (J.go i H2 ∧ ∀ x H', J.yld i H2 x H' → rdG ((X.K, X.w) : KW) t x (L2.wipe σ vs) H' fun σ2 H2 => L2.wipe σ2 vs = L2.wipe σ vs ∧ rdC ((X.K, X.w) : KW) M.calm rcs σ2 H2 fun b H3 =>
      if b = true then rdE ((X.K, X.w) : KW) M.calm re σ2 H3 fun y H4 => ∃ acc, H4 q = some (.lst acc) ∧ acc.length < sizeLine ∧ Nx (upd H4 q (.lst (acc ++ [y]))) else Nx H3) := by
  cases hd : xs.drop i with
  | nil =>
    have hi : xs.length ≤ i := List.drop_eq_nil_iff.mp hd
    rw [hd, compR] at cr
    refine .inl ⟨gv.stop i F2 H2 s2 as.rel.fin.fh hi, ?_⟩
    exact kn _ _ _ cr F2 H2 _ (as.rel.back rel1 f2) (f1.trans f2) (h1.trans h2) ⟨q, rfl, ⟨as.f, as.h0⟩, ⟨vsl, as.at_, rv⟩, as.loose.back⟩
  | cons d rest =>
    have hi : i < xs.length := by
      rcases Nat.lt_or_ge i xs.length with h | h
      · exact h
      · rw [List.drop_eq_nil_of_le h] at hd
        cases hd
    have hx : xs[i]? = some d := by
      have z := congrArg (·[0]?) hd
      simpa using z
    have hr : xs.drop (i + 1) = rest := by
      rw [← List.drop_drop, hd]
      rfl
    have h0m : 0 < m := by omega
    rw [hr] at hNx
    rw [hd, compR, htn] at cr
    refine .inr ⟨gv.go i F2 H2 s2 as.rel.fin.fh hi, fun x H3 y => ?_⟩
    obtain ⟨F3, fn, rp⟩ := gv.yld i F2 H2 x H3 d s2 as.rel.fin.fh hx y
    have as3 := as.step fn
    refine ⟨pinT T q (.lst vsl), F3, _, d, _, as3.pin, rp, cr, fun ρ4 σ4 w4 rel4 l4 same => ?_⟩
    have back : ∀ {F H : Hp} {ρ : Rho}, Rel ((X.K, X.w) : KW) (pinT T q (.lst vsl)) F H ρ σ4 → Aside ((X.K, X.w) : KW) T F H ρ σ4 q (.lst vsl) := fun r => Aside.of_pin r as.h0 as.f0 trivial
    have hw : L2.wipe σ4 vs = L2.wipe σ vs := wipe_eq (l4.trans (wipe_length ..)) fun j hj => (same j fun z => hj (hsub j z)).trans (wipe_out hj)
    refine ⟨hw, pinT T q (.lst vsl), F3, ρ4, _, rel4, w4, fun b ρ5 w5 F5 H5 rel5 f5 h5 => ?_⟩
    have f25 : Sub F2 F5 := fn.base.trans f5
    have h15 : Sub H1 H5 := h2.trans (fn.sub.trans h5)
    cases b with
    | true =>
      rw [if_pos rfl] at w5
      dsimp only
      rw [if_pos rfl]
      refine ⟨pinT T q (.lst vsl), F5, ρ5, fun _ => False, _, rel5, w5, fun y s ρ6 w6 F6 H6 v rel6 f6 h6 ok6 => ?_, xo_no⟩
      obtain ⟨F7, f7, rel7, rp7⟩ := rel6.frz ok6
      have a7 := back rel7
      obtain ⟨hlen, w6⟩ := w6
      have f27 : Sub F2 F7 := f25.trans (f6.trans f7)
      refine ⟨vsl, a7.at_, by rw [rv.length]; exact hlen, hNx _ F7 (frz s ρ6) (acc ++ [y]) _ h0m (f2.trans f27) (fun a u e => ?_) ?_ ((rv.mono f27).snoc rp7) (gv.mono _ _ f27 s2) w6⟩
      · have hne : a ≠ q := fun z => by rw [z, hq] at e; cases e
        obtain ⟨o, z1, z2⟩ := (h15.trans h6) a u e
        exact ⟨o, by rw [upd_ne hne]; exact z1, z2⟩
      · rw [← hw]
        exact (a7.put (o' := .lst (vsl ++ [v])) trivial).wipe vs
    | false =>
      rw [if_neg (by decide)] at w5
      dsimp only
      rw [if_neg (by decide)]
      have a5 := back rel5
      refine hNx _ F5 ρ5 acc vsl h0m (f2.trans f25) h15 ?_ (rv.mono f25) (gv.mono _ _ f25 s2) w5
      rw [← hw]
      exact a5.wipe vs
theorem comp_run {vs : List Nat} (hsub : ∀ i ∈ slotsT t, i ∈ vs) : ∀ σ H Q, rdE ((X.K, X.w) : KW) M (.comp re t k rit rcs vs) σ H Q → tLc (rdI ((X.K, X.w) : KW) M k rit) (rdG ((X.K, X.w) : KW) t) (rdC ((X.K, X.w) : KW) M.calm rcs) (rdE ((X.K, X.w) : KW) M.calm re) vs σ H Q := fun σ H Q ⟨T, F, ρ, Xp, Qp, rel, w, kn, xo⟩ => by
  rw [wpE] at w
  refine ⟨T, F, ρ, Xp, _, rel, w, fun xs ρ1 w1 F1 H1 J S' rel1 f1 h1 gv s1 => ?_, xo⟩
  intro q hq
  obtain ⟨tn, htn⟩ : ∃ tn, tn = turnR (fun x ρ2 Q => tgR t x (wipeE ρ2 vs) Q) (fun ρ3 Q => wpR M.G M.Γ (fun _ => False) rcs ρ3 Q) (fun ρ4 Q => wpE M.G M.Γ (fun _ => False) re ρ4 Q) := ⟨_, rfl⟩
  have htn' : ∀ x ρ K, tn x ρ K = turnR (fun x ρ2 Q => tgR t x (wipeE ρ2 vs) Q) (fun ρ3 Q => wpR M.G M.Γ (fun _ => False) rcs ρ3 Q) (fun ρ4 Q => wpE M.G M.Γ (fun _ => False) re ρ4 Q) x ρ K := fun x ρ K => by rw [htn]
  rw [← htn] at w1
  refine ⟨fun i m H2 => m + i = xs.length ∧ ∃ F2 ρ2 acc vsl, Sub F1 F2 ∧ Sub H1 H2 ∧ Aside ((X.K, X.w) : KW) T F2 H2 (wipeE ρ2 vs) (L2.wipe σ vs) q (.lst vsl) ∧ RepL ((X.K, X.w) : KW) F2 vsl acc ∧ S' F2 ∧ compR tn (xs.drop i) acc ρ2 fun ds ρ' => Qp (.list ds) .fr (backE ρ1 ρ' vs),
    ⟨xs.length, rfl, F1, ρ1, [], [], Sub.refl _, upd_sub hq, (Aside.new (o := .lst []) rel1 hq trivial).wipe vs, .nil, s1, w1⟩, fun i m H2 ⟨hm, F2, ρ2, acc, vsl, f2, h2, as, rv, s2, cr⟩ => ?_⟩
  rcases comp_core (Nx := fun H' => (m - 1) + (i + 1) = xs.length ∧ ∃ F2 ρ2 acc vsl, Sub F1 F2 ∧ Sub H1 H' ∧ Aside ((X.K, X.w) : KW) T F2 H' (wipeE ρ2 vs) (L2.wipe σ vs) q (.lst vsl) ∧ RepL ((X.K, X.w) : KW) F2 vsl acc ∧ S' F2 ∧ compR tn (xs.drop (i + 1)) acc ρ2 fun ds ρ' => Qp (.list ds) .fr (backE ρ1 ρ' vs))
    htn' hsub kn rel1 f1 h1 gv hq hm f2 h2 as rv s2 cr (fun H' F2 ρ2 acc vsl h0 a b c d e f => ⟨by omega, F2, ρ2, acc, vsl, a, b, c, d, e, f⟩) with h | ⟨h, h'⟩
  · exact .inl h
  · refine .inr ⟨h, _, fun H' z => ⟨m - 1, ?_, z⟩, h'⟩
    have := z.1
    omega
theorem e_comp {scope : Scope} {own : List (Str × Nat)} (hc : X.calm = true) (hN : X.N.Nodup) (hi : PI X tg iter (rdI ((X.K, X.w) : KW) M k rit)) (ok : BlkOk X.N X.env.scope scope own) (hsub : ∀ i ∈ slotsT t, i ∈ own.map (·.2))
    (hg : ∀ (s : Shared) (H : Hp) (C : Addr) (cl : List (Str × Addr)) (fp : List Addr), PG (X.blk s H scope (compEnvC scope cl C X.env) fp) tg (rdG ((X.K, X.w) : KW) t))
    (ht : ∀ (s : Shared) (H : Hp) (C : Addr) (cl : List (Str × Addr)) (fp : List Addr), PTs (X.blk s H scope (compEnvC scope cl C X.env) fp) ifs (rdC ((X.K, X.w) : KW) M.calm rcs))
    (he : ∀ (s : Shared) (H : Hp) (C : Addr) (cl : List (Str × Addr)) (fp : List Addr), PE (X.blk s H scope (compEnvC scope cl C X.env) fp) elt (rdE ((X.K, X.w) : KW) M.calm re)) (hs : notSet iter = true) :
    PE X (.ListComp elt [⟨tg, iter, ifs, 0⟩] scope pos) (rdE ((X.K, X.w) : KW) M (.comp re t k rit rcs (own.map (·.2)))) :=
  PE.imp (pe_lc hc hN hi ok hg ht he fun x => not_folded hs _ x) (comp_run hsub)
end
end Pe
end

section
set_option maxRecDepth 100000
/-! Pe13: statements. -/
namespace Pe
open PySem PySem.Spec PyProof.Rows L2

structure EndsOk (K : KW) (M : Mean) (T : At) (F : Hp) (Kp : PEnds) (E : Ends) : Prop where
  nx : ∀ ρ', Kp.nx ρ' → ∀ F' H' σ', Rel K T F' H' ρ' σ' → Sub F F' → E.nx σ' H'
  rt : ∀ d, Kp.rt d → ∀ F' H' v, Fin T F' H' → Rep K F' v d → E.rt v H'
  bk : ∀ ρ', Kp.bk ρ' → ∀ F' H' σ', Rel K T F' H' ρ' σ' → Sub F F' → E.bk σ' H'
  ct : ∀ ρ', Kp.ct ρ' → ∀ F' H' σ', Rel K T F' H' ρ' σ' → Sub F F' → E.ct σ' H'
  ex : XOk M T Kp.ex
def rdSt (K : KW) (M : Mean) (s : CS) : TS := fun E σ H => ∃ T F ρ Kp, Rel K T F H ρ σ ∧ wpS M.G M.Γ s ρ Kp ∧ EndsOk K M T F Kp E
def rdB (K : KW) (M : Mean) (s : CSs) : TS := fun E σ H => ∃ T F ρ Kp, Rel K T F H ρ σ ∧ wpB M.G M.Γ s ρ Kp ∧ EndsOk K M T F Kp E
theorem PS.imp {X : Cx} {st : Stmt} {t t' : TS} (h : PS X st t) (i : ∀ E σ H, t' E σ H → t E σ H) : PS X st t' := ⟨fun pins s σ H E I w => h.run pins s σ H E I (i _ _ _ w)⟩
theorem PSs.imp {X : Cx} {st : List Stmt} {t t' : TS} (h : PSs X st t) (i : ∀ E σ H, t' E σ H → t E σ H) : PSs X st t' := ⟨fun pins s σ H E I w => h.run pins s σ H E I (i _ _ _ w)⟩
theorem EndsOk.grow {K : KW} {M : Mean} {T : At} {F F' : Hp} {Kp : PEnds} {E : Ends} (h : EndsOk K M T F Kp E) (f : Sub F F') : EndsOk K M T F' Kp E :=
  ⟨fun ρ' k F2 H' σ' r s => h.nx ρ' k F2 H' σ' r (f.trans s), h.rt, fun ρ' k F2 H' σ' r s => h.bk ρ' k F2 H' σ' r (f.trans s), fun ρ' k F2 H' σ' r s => h.ct ρ' k F2 H' σ' r (f.trans s), h.ex⟩

section
variable {X : Cx} {M : Mean} {tg a b c e : Expr} {ra rb rc re : CE} {es : List Expr} {res : CEs} {pos p : Pos} {st : Stmt} {sts : List Stmt} {rs : CS} {rss : CSs} {i j : Nat} {x y : Str} {t : Tgt}
theorem s_nil : PSs X [] (rdB ((X.K, X.w) : KW) M .nil) := PSs.imp pss_nil fun E σ H ⟨T, F, ρ, Kp, rel, w, k⟩ => by
  rw [wpB] at w
  exact k.nx ρ w F H σ rel (Sub.refl _)
theorem s_cons (h1 : PS X st (rdSt ((X.K, X.w) : KW) M rs)) (h2 : PSs X sts (rdB ((X.K, X.w) : KW) M rss)) : PSs X (st :: sts) (rdB ((X.K, X.w) : KW) M (.cons rs rss)) := PSs.imp (pss_cons h1 h2) fun E σ H ⟨T, F, ρ, Kp, rel, w, k⟩ => by
  rw [wpB] at w
  exact ⟨T, F, ρ, _, rel, w, fun ρ' q F' H' σ' r s => ⟨T, F', ρ', Kp, r, q, k.grow s⟩, k.rt, k.bk, k.ct, k.ex⟩
theorem s_brk : PS X (.Break pos) (rdSt ((X.K, X.w) : KW) M .brk) := PS.imp ps_break fun E σ H ⟨T, F, ρ, Kp, rel, w, k⟩ => by
  rw [wpS] at w
  exact k.bk ρ w F H σ rel (Sub.refl _)
theorem s_cnt : PS X (.Continue pos) (rdSt ((X.K, X.w) : KW) M .cnt) := PS.imp ps_continue fun E σ H ⟨T, F, ρ, Kp, rel, w, k⟩ => by
  rw [wpS] at w
  exact k.ct ρ w F H σ rel (Sub.refl _)
theorem s_pass : PS X (.Pass pos) (rdSt ((X.K, X.w) : KW) M .pass) := PS.imp ps_pass fun E σ H ⟨T, F, ρ, Kp, rel, w, k⟩ => by
  rw [wpS] at w
  exact k.nx ρ w F H σ rel (Sub.refl _)
theorem s_doc {z : Str} {jj : Nat} {pos' : Pos} : PS X (.Expr (.Constant (.str z) jj pos) pos') (rdSt ((X.K, X.w) : KW) M .pass) := PS.imp ps_doc fun E σ H ⟨T, F, ρ, Kp, rel, w, k⟩ => by
  rw [wpS] at w
  exact k.nx ρ w F H σ rel (Sub.refl _)
theorem s_ret (ha : PE X a (rdE ((X.K, X.w) : KW) M ra)) : PS X (.Return (some a) pos) (rdSt ((X.K, X.w) : KW) M (.ret ra)) := PS.imp (ps_ret ha) fun E σ H ⟨T, F, ρ, Kp, rel, w, k⟩ => by
  rw [wpS] at w
  refine ⟨T, F, ρ, _, _, rel, w, fun x s ρ1 w1 F1 H1 v rel1 f1 h1 ok1 => ?_, k.ex⟩
  obtain ⟨F2, f2, rel2, rp⟩ := rel1.frz ok1
  exact k.rt _ w1 F2 H1 v rel2.fin rp
theorem s_ite {a b : List Stmt} {ra rb : CSs} (hc : PT X c (rdT ((X.K, X.w) : KW) M rc)) (ha : PSs X a (rdB ((X.K, X.w) : KW) M ra)) (hb : PSs X b (rdB ((X.K, X.w) : KW) M rb)) : PS X (.If c a b pos) (rdSt ((X.K, X.w) : KW) M (.ite rc ra rb)) := PS.imp (ps_if hc ha hb) fun E σ H ⟨T, F, ρ, Kp, rel, w, k⟩ => by
  rw [wpS] at w
  refine ⟨T, F, ρ, _, _, rel, w, fun x s ρ1 w1 => ?_, k.ex⟩
  obtain ⟨t, rfl, q⟩ := w1
  refine ⟨t, rfl, fun F1 H1 rel1 f1 h1 => ?_⟩
  cases t with
  | true =>
    rw [if_pos rfl] at q
    rw [if_pos rfl]
    exact ⟨T, F1, ρ1, Kp, rel1, q, k.grow f1⟩
  | false =>
    rw [if_neg (by decide)] at q
    rw [if_neg (by decide)]
    exact ⟨T, F1, ρ1, Kp, rel1, q, k.grow f1⟩

/-! stores -/
theorem asg_core (ha : True) : ∀ E σ H, rdSt ((X.K, X.w) : KW) M (.asg i ra) E σ H → tAsg (rdE ((X.K, X.w) : KW) M ra) (gName i) E σ H := fun E σ H ⟨T, F, ρ, Kp, rel, w, k⟩ => by
  rw [wpS] at w
  refine ⟨T, F, ρ, _, _, rel, w, fun d s ρ1 w1 F1 H1 v rel1 f1 h1 ok1 => ?_, k.ex⟩
  obtain ⟨F2, f2, rel2⟩ := rel1.store i ok1
  exact k.nx _ w1 F2 H1 _ rel2 (f1.trans f2)
theorem s_asg {pos' : Pos} (hN : X.N.Nodup) (hi : X.N[i]? = some x) (hx : Loc X.env.scope x) (ha : PE X a (rdE ((X.K, X.w) : KW) M ra)) (hs : swapsWith a (some (.Name x pos')) pos.line X.env = pure false) (hf : X.fn x = true ∨ X.env.scope.names.lookup x = some .local) :
    PS X (.Assign [.Name x pos'] a pos) (rdSt ((X.K, X.w) : KW) M (.asg i ra)) := PS.imp (ps_set hN hi hx ha hs hf) (asg_core trivial)
theorem s_asgC {pos' lp : Pos} {elt iter : Expr} {ifs : List Expr} {scope : Scope} {own : List (Str × Nat)} {k : Ik} {rit rcs : CEs} (hc : X.calm = true) (hN : X.N.Nodup) (hy : X.N[i]? = some y) (hyl : X.env.scope.names.lookup y = some .local)
    (hsw : swapsWith (.ListComp elt [⟨tg, iter, ifs, 0⟩] scope lp) (some (.Name y pos')) pos.line X.env = pure true) (hi : PI X tg iter (rdI ((X.K, X.w) : KW) M k rit)) (ok : BlkOk X.N X.env.scope scope own) (hsub : ∀ i ∈ slotsT t, i ∈ own.map (·.2))
    (hg : ∀ (s : Shared) (H : Hp) (C : Addr) (cl : List (Str × Addr)) (fp : List Addr), PG (X.blk s H scope (compEnvC scope cl C X.env) fp) tg (rdG ((X.K, X.w) : KW) t))
    (ht : ∀ (s : Shared) (H : Hp) (C : Addr) (cl : List (Str × Addr)) (fp : List Addr), PTs (X.blk s H scope (compEnvC scope cl C X.env) fp) ifs (rdC ((X.K, X.w) : KW) M.calm rcs))
    (he : ∀ (s : Shared) (H : Hp) (C : Addr) (cl : List (Str × Addr)) (fp : List Addr), PE (X.blk s H scope (compEnvC scope cl C X.env) fp) elt (rdE ((X.K, X.w) : KW) M.calm re)) (hs : notSet iter = true) :
    PS X (.Assign [.Name y pos'] (.ListComp elt [⟨tg, iter, ifs, 0⟩] scope lp) pos) (rdSt ((X.K, X.w) : KW) M (.asg i (.comp re t k rit rcs (own.map (·.2))))) :=
  PS.imp (ps_setLc hc hN hy hyl hsw hi ok hg ht he fun x => not_folded hs _ x) fun E σ H h => comp_run hsub _ _ _ (asg_core (i := i) trivial E σ H h)
theorem no_swapS {e : Expr} (h : notComp e = true) (t : Expr) (l : Nat) (env : Env) : swapsWithSole [t] e l env = pure false := no_swap h (some t) l env
theorem s_unp (hg : PG X tg (rdG ((X.K, X.w) : KW) t)) (ha : PE X a (rdE ((X.K, X.w) : KW) M ra)) (hs : swapsWithSole [tg] a pos.line X.env = pure false) (hw : swappedStores [tg] a X.env = pure none) (ht : isTgt tg = true) : PS X (.Assign [tg] a pos) (rdSt ((X.K, X.w) : KW) M (.unp t ra)) :=
  PS.imp (ps_asg ha hg hs hw (by rw [asg_cons ht]; rfl)) fun E σ H ⟨T, F, ρ, Kp, rel, w, k⟩ => by
    rw [wpS] at w
    refine ⟨T, F, ρ, _, _, rel, w, fun d s ρ1 w1 F1 H1 v rel1 f1 h1 ok1 => ?_, k.ex⟩
    obtain ⟨F2, f2, rel2, rp⟩ := rel1.frz ok1
    exact ⟨T, F2, _, d, _, rel2, rp, w1, fun ρ' σ' q r _ _ => k.nx _ q F2 H1 σ' r (f1.trans f2)⟩
theorem s_par {px py pt pt2 : Pos} {kt k2 : Nat} (hc : X.calm = true) (hN : X.N.Nodup) (hi : X.N[i]? = some x) (hj : X.N[j]? = some y) (hij : i ≠ j) (hx : X.env.scope.names.lookup x = some .local) (hy : X.env.scope.names.lookup y = some .local)
    (ha : PE X a (rdE ((X.K, X.w) : KW) M ra)) (hb : PE X b (rdE ((X.K, X.w) : KW) M rb)) (na : notStar a = true) (nb : notStar b = true) (hw : swappedStores [.Tuple [.Name x px, .Name y py] kt pt] (.Tuple [a, b] k2 pt2) X.env = pure (some [x, y])) :
    PS X (.Assign [.Tuple [.Name x px, .Name y py] kt pt] (.Tuple [a, b] k2 pt2) pos) (rdSt ((X.K, X.w) : KW) M (.par i j ra rb)) :=
  PS.imp (ps_par hc hN hi hj hij hx hy (pa_cons ha (pa_cons hb pa_nil (star_cons nb _ _)) (star_cons na _ _)) hw) fun E σ H ⟨T, F, ρ, Kp, rel, w, k⟩ => by
    rw [wpS] at w
    refine ⟨T, F, ρ, _, _, rel, w, fun d s ρ1 w1 F1 H1 v rel1 f1 h1 ok1 => ?_, k.ex⟩
    obtain ⟨F2, f2, rel2, rp⟩ := rel1.frz ok1
    refine ⟨T, F2, _, _, _, rel2, w1, fun d3 s3 ρ3 w3 F3 H3 v3 rel3 f3 h3 ok3 => ?_, k.ex⟩
    obtain ⟨F4, f4, rel4, rp4⟩ := rel3.frz ok3
    exact ⟨v, v3, rfl, k.nx _ w3 F4 H3 _ ((rel4.setIm i (rp.mono (f3.trans f4))).setIm j rp4) (f1.trans (f2.trans (f3.trans f4)))⟩
def ipOf : Bop → Option (Int → Int → Int)
  | .add => some fun i j => i + j
  | .sub => some fun i j => i - j
  | _ => none
theorem ip_of {o : Bop} {f : Int → Int → Int} (h : ipOf o = some f) : PIp X o.op (ipI f) := by
  cases o <;> cases h
  · exact ip_add
  · exact ip_sub
theorem binI_ip {o : Bop} {f : Int → Int → Int} (h : ipOf o = some f) {d e : D} {Q : D → Prop} (w : binI o d e Q) : ∃ i j, d = .int i ∧ e = .int j ∧ Q (.int (f i j)) := by
  obtain ⟨i, j, rfl, rfl, w⟩ := w
  cases o <;> cases h <;> exact ⟨i, j, rfl, rfl, w⟩
theorem own_val {K : KW} {T : At} {F H : Hp} {ρ : Rho} {σ : L2.St} {i : Nat} {Q : D → Prop} (rel : Rel K T F H ρ σ) (h : ownR ρ i Q) : ∃ p d, σ[i]? = some (some (.ref p)) ∧ ρ[i]? = some (.own d) ∧ Ours T F p ∧ HasAt K F H p d ∧ Q d := by
  unfold ownR at h
  split at h
  · rename_i d e
    have e' : ρ[i]? = some (.own d) := by
      rw [List.getD_eq_getElem?_getD] at e
      cases q : ρ[i]? with
      | none =>
        rw [q] at e
        cases e
      | some z =>
        rw [q] at e
        exact congrArg some e
    obtain ⟨p, h1, h2, h3⟩ := rel.own i d e'
    exact ⟨p, d, h1, e', h2, h3, h⟩
  · exact h.elim
theorem slot_val {K : KW} {T : At} {F H : Hp} {ρ : Rho} {σ : L2.St} {i : Nat} {d : D} (rel : Rel K T F H ρ σ) (h : rdS (ρ.getD i .un) = some d) : ∃ v, σ[i]? = some (some v) ∧ Top K F H v d := by
  rw [List.getD_eq_getElem?_getD] at h
  cases q : ρ[i]? with
  | none =>
    rw [q] at h
    cases h
  | some z =>
    rw [q] at h
    cases z with
    | un => cases h
    | im d' =>
      cases h
      obtain ⟨v, h1, h2⟩ := rel.im i _ q
      exact ⟨v, h1, .im h2⟩
    | own d' =>
      cases h
      obtain ⟨p, h1, h2, h3⟩ := rel.own i _ q
      exact ⟨.ref p, h1, .at_ h3.hasRd⟩
theorem s_aug {o : Bop} {f : Int → Int → Int} {pos' : Pos} (ho : ipOf o = some f) (hN : X.N.Nodup) (hi : X.N[i]? = some x) (hx : Loc X.env.scope x) (ha : PE X a (rdE ((X.K, X.w) : KW) M ra)) (hf : X.fn x = true ∨ X.env.scope.names.lookup x = some .local) :
    PS X (.AugAssign (.Name x pos') o.op a pos) (rdSt ((X.K, X.w) : KW) M (.aug i o ra)) := PS.imp (ps_aug hN hi hx ha (ip_of ho) hf) fun E σ H ⟨T, F, ρ, Kp, rel, w, k⟩ => by
  rw [wpS] at w
  obtain ⟨d, hd, w⟩ := w
  obtain ⟨v, h1, h2⟩ := slot_val rel hd
  refine ⟨v, h1, T, F, ρ, _, _, rel, w, fun d2 s ρ1 w1 F1 H1 v1 rel1 f1 hh1 ok1 => ?_, k.ex⟩
  obtain ⟨n, m, rfl, rfl, q⟩ := binI_ip ho w1
  exact ⟨n, m, h2.int, (ok1.top rel1).int, k.nx _ q F1 H1 _ (rel1.setIm i (.int _)) f1⟩
/-- o[i] = v, of a list, of a dict -/
def rSetN (K : KW) : TSet := fun o i v H Q => rSetL o i v H Q ∨ ∃ a xs F ds k d, o = .ref a ∧ Sub F H ∧ H a = some (dN K.2 a xs) ∧ RepM K F xs ds ∧ isKey k = true ∧ Rep K F i k ∧ Rep K F v d ∧ xs.length < sizeLine ∧ ∀ b, i = .ref b → Q (upd H a (dN K.2 a (putX xs k b v)))
theorem set_N (hu : X.A.units + 65 < cLine) : PSet X (rSetN ((X.K, X.w) : KW)) := by
  intro pins s σ H o i v ov iv u Q I ro ri rv h
  rcases h with h | ⟨a, xs, F, ds, k, d, rfl, fh, e, r, hk, rk, rd, hl, q⟩
  · exact set_list pins s σ H o i v ov iv u Q I ro ri rv h
  · cases ro
    exact n_set hu I fh e r hk rk ri rv hl fun b s' eb I' => ⟨_, I', q b eb⟩
theorem set_core {T : At} {F H : Hp} {ρ : Rho} {σ : L2.St} {x : Nat} {p : Addr} {c k v : D} {vi vv : V} {Q : D → Prop} {P : Hp → Prop} (rel : Rel ((X.K, X.w) : KW) T F H ρ σ) (hs : σ[x]? = some (some (.ref p))) (hr : ρ[x]? = some (.own c)) (ha : HasAt ((X.K, X.w) : KW) F H p c)
    (ri : Top ((X.K, X.w) : KW) F H vi k) (rik : isKey k = true → Rep ((X.K, X.w) : KW) F vi k) (rv : Rep ((X.K, X.w) : KW) F vv v) (h : putR c k v Q) (hP : ∀ c' H', Q c' → Rel ((X.K, X.w) : KW) T F H' (ρ.set x (.own c')) σ → P H') : rSetN ((X.K, X.w) : KW) (.ref p) vi vv H P := by
  unfold putR at h
  split at h
  · obtain ⟨j, n, rfl, hn, q⟩ := h
    obtain ⟨xs, e, r⟩ := ha
    refine .inl ⟨p, xs, j, n, rfl, ri.int, e, by rw [r.length]; exact hn, hP _ _ q (rel.change hr hs trivial ⟨_, upd_same, r.set n rv⟩)⟩
  · obtain ⟨hk, hl, q⟩ := h
    obtain ⟨xs, e, r⟩ := ha
    refine .inr ⟨p, xs, F, _, k, v, rfl, rel.fin.fh, e, r, hk, rik hk, rv, by rw [r.length]; exact hl, fun b eb => hP _ _ q (rel.change hr hs trivial ⟨_, upd_same, putX_ok hk (eb ▸ rik hk) rv r⟩)⟩
  · exact h.elim
theorem asg_sub {o i : Expr} {pos : Pos} {env : Env} (h : notSlice i = true) : ∀ v, assign (.Subscript o i pos) env v = (do
      let ov ← holding [v] (eval o env)
      let iv ← holding [v, ov] (eval i env)
      standAt pos
      holding [v, ov, iv] (setItem ov iv v)
      release [v, ov, iv] []) := fun v => by
  cases i <;> first | rfl | cases h
theorem s_put {i : Nat} {p1 pos' : Pos} {b : Expr} (hu : X.A.units + 65 < cLine) (hN : X.N[i]? = some x) (hv : Vis X.env.scope x) (hd : (x == ("__debug__" : Str)) = false) (hcd : (x == ("__classdict__" : Str)) = false) (hb : PE X b (rdE ((X.K, X.w) : KW) M rb)) (ha : PE X a (rdE ((X.K, X.w) : KW) M ra)) (ns : notSlice b = true) (nc : notComp a = true) :
    PS X (.Assign [.Subscript (.Name x p1) b pos'] a pos) (rdSt ((X.K, X.w) : KW) M (.put i rb ra)) :=
  PS.imp (ps_asg ha (pg_sub (pe_var hN hv hd hcd) hb (set_N hu) (asg_sub ns)) (no_swapS nc _ _ _) (by cases a <;> rfl) rfl) fun E σ H ⟨T, F, ρ, Kp, rel, w, k⟩ => by
    rw [wpS] at w
    refine ⟨T, F, ρ, _, _, rel, w, fun d s ρ1 w1 F1 H1 v rel1 f1 h1 ok1 => ?_, k.ex⟩
    obtain ⟨F2, f2, rel2, rp⟩ := rel1.frz ok1
    obtain ⟨p, c0, z1, z2, z3, z4, w2⟩ := own_val rel2 w1
    refine ⟨_, z1, T, F2, _, _, _, rel2, w2, fun d3 s3 ρ3 w3 F3 H3 v3 rel3 f3 h3 ok3 => ?_, k.ex⟩
    obtain ⟨F4, f4, rel4, rp4⟩ := rel3.frz ok3
    obtain ⟨p', c, y1, y2, y3, y4, w4⟩ := own_val rel4 w3
    rw [z1] at y1
    cases y1
    exact set_core rel4 z1 y2 y4 (.im rp4) (fun _ => rp4) (rp.mono (f3.trans f4)) w4 fun c' H' q r => k.nx _ q F4 H' _ r (f1.trans (f2.trans (f3.trans f4)))

/-! methods that change a list -/
theorem tyV_list {H : Hp} {p : Addr} {xs : List V} {K : PySem.W.Frag} (h : H p = some (.lst xs)) : tyV K "list" (.ref p) H := .inl ⟨rfl, xs, .inl (.inl h)⟩
theorem list_val {c : D} {Q : List D → Prop} (h : listR c Q) : ∃ xs, c = .list xs ∧ Q xs := by
  unfold listR at h
  split at h
  · exact ⟨_, rfl, h⟩
  · exact h.elim
theorem few_one {e : Expr} (ne : notStar e = true) (env : Env) (pos : Pos) : ((backTo pos (starEach [e] env)).all (fun x => !x.1) && (backToKw pos (keywordEach [] env)).all (fun x => x.1.isSome)
      && decide (([e] : List Expr).length + ([] : List Keyword).length + (if ([] : List Keyword).isEmpty then 0 else 1) < 30)) = true := by
  rw [star_cons ne]
  rfl
theorem s_append {p1 apos cpos : Pos} (hN : X.N[i]? = some x) (hv : Vis X.env.scope x) (hd : (x == ("__debug__" : Str)) = false) (hcd : (x == ("__classdict__" : Str)) = false) (ha : PE X a (rdE ((X.K, X.w) : KW) M ra)) (na : notStar a = true) (hl : (apos.endLine == cpos.line) = true) :
    PS X (.Expr (.Call (.Attribute (.Name x p1) "append" apos) [a] [] cpos) pos) (rdSt ((X.K, X.w) : KW) M (.append i ra)) :=
  PS.imp (ps_expr (pe_bm (T := "list") (id := "list.append") F.plainAttrs_list F.slot_list_append F.type_list_append mt_append (pe_var hN hv hd hcd) (pa_cons ha pa_nil (star_cons na _ _)) rfl (few_one na _ _) hl (star_cons na _ _))) fun E σ H ⟨T, F, ρ, Kp, rel, w, k⟩ => by
    rw [wpS] at w
    obtain ⟨p, c0, z1, z2, z3, z4, w⟩ := own_val rel w
    obtain ⟨xs1, rfl, w⟩ := list_val w
    obtain ⟨xs0, q0, _⟩ := z4
    refine ⟨_, z1, tyV_list q0, T, F, ρ, _, _, rel, w, fun d s ρ1 w1 F1 H1 v rel1 f1 h1 ok1 => ?_, k.ex⟩
    obtain ⟨F2, f2, rel2, rp⟩ := rel1.frz ok1
    obtain ⟨p', c, y1, y2, y3, y4, w2⟩ := own_val rel2 w1
    rw [z1] at y1
    cases y1
    obtain ⟨xs2, rfl, w2⟩ := list_val w2
    obtain ⟨xs, q1, r⟩ := y4
    exact ⟨p, xs, v, rfl, rfl, q1, by rw [r.length]; exact w2.1, k.nx _ w2.2 F2 _ _ (rel2.change y2 z1 trivial ⟨_, upd_same, r.snoc rp⟩) (f1.trans f2)⟩
theorem s_extend {p1 apos cpos : Pos} (hN : X.N[i]? = some x) (hv : Vis X.env.scope x) (hd : (x == ("__debug__" : Str)) = false) (hcd : (x == ("__classdict__" : Str)) = false) (ha : PE X a (rdE ((X.K, X.w) : KW) M ra)) (na : notStar a = true) (hl : (apos.endLine == cpos.line) = true) :
    PS X (.Expr (.Call (.Attribute (.Name x p1) "extend" apos) [a] [] cpos) pos) (rdSt ((X.K, X.w) : KW) M (.extend i ra)) :=
  PS.imp (ps_expr (pe_bm (T := "list") (id := "list.extend") F.plainAttrs_list F.slot_list_extend F.type_list_extend mt_extendR (pe_var hN hv hd hcd) (pa_cons ha pa_nil (star_cons na _ _)) rfl (few_one na _ _) hl (star_cons na _ _))) fun E σ H ⟨T, F, ρ, Kp, rel, w, k⟩ => by
    rw [wpS] at w
    obtain ⟨p, c0, z1, z2, z3, z4, w⟩ := own_val rel w
    obtain ⟨xs1, rfl, w⟩ := list_val w
    obtain ⟨xs0, q0, _⟩ := z4
    refine ⟨_, z1, tyV_list q0, T, F, ρ, _, _, rel, w, fun d s ρ1 w1 F1 H1 v rel1 f1 h1 ok1 => ?_, k.ex⟩
    obtain ⟨ys, rfl, w1⟩ := list_val w1
    obtain ⟨b, zs, e2, rd2, r2⟩ := (ok1.top rel1).list rel1.fin.fh
    obtain ⟨p', c, y1, y2, y3, y4, w2⟩ := own_val rel1 w1
    rw [z1] at y1
    cases y1
    obtain ⟨xs2, rfl, w2⟩ := list_val w2
    obtain ⟨xs, q1, r⟩ := y4
    exact ⟨p, b, xs, zs, rfl, by rw [e2], q1, rd2, by rw [r.length, r2.length]; exact w2.1, k.nx _ w2.2 F1 _ _ (rel1.change y2 z1 trivial ⟨_, upd_same, r.append r2⟩) f1⟩
theorem pop_core {T : At} {F H : Hp} {ρ : Rho} {σ : L2.St} {Q : D → Rho → Prop} (rel : Rel ((X.K, X.w) : KW) T F H ρ σ) (w : popR ρ i Q) : ∃ p xs v d, σ[i]? = some (some (.ref p)) ∧ H p = some (.lst xs) ∧ xs[xs.length - 1]? = some v ∧ Rep ((X.K, X.w) : KW) F v d ∧
    ∃ ρ', Q d ρ' ∧ Rel ((X.K, X.w) : KW) T F (upd H p (.lst xs.dropLast)) ρ' σ := by
  unfold popR at w
  obtain ⟨p, c0, z1, z2, z3, z4, w⟩ := own_val rel w
  obtain ⟨xs1, rfl, w⟩ := list_val w
  obtain ⟨xs, q0, r⟩ := z4
  obtain ⟨d, hd, w⟩ := w
  obtain ⟨v, hv, rv⟩ := r.get hd
  exact ⟨p, xs, v, d, z1, q0, by rw [r.length]; exact hv, rv, _, w, rel.change z2 z1 trivial ⟨_, upd_same, r.dropLast⟩⟩
theorem pe_pop {p1 apos cpos : Pos} (hN : X.N[i]? = some x) (hv : Vis X.env.scope x) (hd : (x == ("__debug__" : Str)) = false) (hcd : (x == ("__classdict__" : Str)) = false) (hl : (apos.endLine == cpos.line) = true) :
    PE X (.Call (.Attribute (.Name x p1) "pop" apos) [] [] cpos) (tBM0 X.K "list" rPop (tVar i)) :=
  pe_bm0 (T := "list") (id := "list.pop") F.plainAttrs_list F.slot_list_pop F.type_list_pop mt_pop (pe_var hN hv hd hcd) rfl hl
theorem s_pop {p1 apos cpos : Pos} (hN : X.N[i]? = some x) (hv : Vis X.env.scope x) (hd : (x == ("__debug__" : Str)) = false) (hcd : (x == ("__classdict__" : Str)) = false) (hl : (apos.endLine == cpos.line) = true) :
    PS X (.Expr (.Call (.Attribute (.Name x p1) "pop" apos) [] [] cpos) pos) (rdSt ((X.K, X.w) : KW) M (.pop i)) := PS.imp (ps_expr (pe_pop hN hv hd hcd hl)) fun E σ H ⟨T, F, ρ, Kp, rel, w, k⟩ => by
  rw [wpS] at w
  obtain ⟨p, xs, v, d, z1, z2, z3, z4, ρ', q, rel'⟩ := pop_core rel w
  exact ⟨_, z1, tyV_list z2, p, xs, v, rfl, rfl, z2, z3, k.nx _ q F _ _ rel' (Sub.refl _)⟩
theorem s_asgPop {p1 p2 apos cpos : Pos} (hN : X.N[i]? = some x) (hv : Vis X.env.scope x) (hd : (x == ("__debug__" : Str)) = false) (hcd : (x == ("__classdict__" : Str)) = false) (hl : (apos.endLine == cpos.line) = true)
    (hNd : X.N.Nodup) (hj : X.N[j]? = some y) (hy : Loc X.env.scope y) (hf : X.fn y = true ∨ X.env.scope.names.lookup y = some .local) :
    PS X (.Assign [.Name y p2] (.Call (.Attribute (.Name x p1) "pop" apos) [] [] cpos) pos) (rdSt ((X.K, X.w) : KW) M (.asgPop j i)) := PS.imp (ps_set hNd hj hy (pe_pop hN hv hd hcd hl) rfl hf) fun E σ H ⟨T, F, ρ, Kp, rel, w, k⟩ => by
  rw [wpS] at w
  obtain ⟨p, xs, v, d, z1, z2, z3, z4, ρ', q, rel'⟩ := pop_core rel w
  exact ⟨_, z1, tyV_list z2, p, xs, v, rfl, rfl, z2, z3, k.nx _ q F _ _ (rel'.setIm j z4) (Sub.refl _)⟩
theorem s_unpPop {p1 apos cpos : Pos} (hN : X.N[i]? = some x) (hv : Vis X.env.scope x) (hd : (x == ("__debug__" : Str)) = false) (hcd : (x == ("__classdict__" : Str)) = false) (hl : (apos.endLine == cpos.line) = true)
    (hg : PG X tg (rdG ((X.K, X.w) : KW) t)) (ht : isTgt tg = true) (hs : swapsWithSole [tg] (.Call (.Attribute (.Name x p1) "pop" apos) [] [] cpos) pos.line X.env = pure false) (hw : swappedStores [tg] (.Call (.Attribute (.Name x p1) "pop" apos) [] [] cpos) X.env = pure none) :
    PS X (.Assign [tg] (.Call (.Attribute (.Name x p1) "pop" apos) [] [] cpos) pos) (rdSt ((X.K, X.w) : KW) M (.unpPop t i)) := PS.imp (ps_asg (pe_pop hN hv hd hcd hl) hg hs hw (by rw [asg_cons ht]; rfl)) fun E σ H ⟨T, F, ρ, Kp, rel, w, k⟩ => by
  rw [wpS] at w
  obtain ⟨p, xs, v, d, z1, z2, z3, z4, ρ', q, rel'⟩ := pop_core rel w
  exact ⟨_, z1, tyV_list z2, p, xs, v, rfl, rfl, z2, z3, T, F, ρ', d, _, rel', z4, q, fun ρ2 σ2 q2 r2 _ _ => k.nx _ q2 F _ _ r2 (Sub.refl _)⟩
end
end Pe
end

section
set_option maxRecDepth 100000
/-! Pe14: loops, x[i] op= e, raise. -/
namespace Pe
open PySem PySem.Spec PyProof.Rows L2
section
variable {X : Cx} {M : Mean} {tg a b c e iter : Expr} {ra rb rc re : CE} {es : List Expr} {res rit : CEs} {pos p : Pos} {st : Stmt} {sts : List Stmt} {rs : CS} {rss : CSs} {i j : Nat} {x y : Str} {t : Tgt} {k : Ik}
theorem s_whl (hp : PassesOwn (model X.prog X.w) X.A X.env X.xe) (hc : PT X c (rdT ((X.K, X.w) : KW) M rc)) (hb : PSs X sts (rdB ((X.K, X.w) : KW) M rss)) : PS X (.While c sts [] pos) (rdSt ((X.K, X.w) : KW) M (.whl rc rss)) := PS.imp (ps_while hp hc hb) fun E σ H ⟨T, F, ρ, Kp, rel, w, k⟩ => by
  rw [wpS] at w
  obtain ⟨n, w⟩ := w
  generalize ht : (fun (ρ : Rho) (Q : Bool → Rho → Prop) => wpE M.G M.Γ Kp.ex rc ρ fun d _ ρ1 => ∃ c, d = .bool c ∧ Q c ρ1) = tt at w
  generalize hbb : (fun (ρ : Rho) (K' : PEnds) => wpB M.G M.Γ rss ρ K') = bb at w
  refine ⟨fun m σ H => ∃ F' ρ', Rel ((X.K, X.w) : KW) T F' H ρ' σ ∧ Sub F F' ∧ whlN tt bb Kp m ρ', ⟨n, F, ρ, rel, Sub.refl _, w⟩, fun m σ2 H2 ⟨F2, ρ2, rel2, f2, w2⟩ => ?_⟩
  cases m with
  | zero => exact w2.elim
  | succ m =>
    unfold whlN at w2
    rw [← ht] at w2
    refine ⟨T, F2, ρ2, _, _, rel2, w2, fun d s ρ3 w3 => ?_, k.ex⟩
    obtain ⟨b, rfl, w3⟩ := w3
    refine ⟨b, rfl, fun F3 H3 rel3 f3 h3 => ?_⟩
    cases b with
    | true =>
      rw [if_pos rfl] at w3 ⊢
      rw [← hbb] at w3
      refine ⟨fun σ' H' => ∃ F' ρ', Rel ((X.K, X.w) : KW) T F' H' ρ' σ' ∧ Sub F F' ∧ whlN tt bb Kp m ρ', fun σ' H' z => ⟨m, Nat.lt_succ_self m, z⟩, T, F3, ρ3, _, rel3, w3, ?_⟩
      rw [hbb, ht]
      exact ⟨fun ρ' q F' H' σ' r s => ⟨F', ρ', r, f2.trans (f3.trans s), q⟩, k.rt, fun ρ' q F' H' σ' r s => k.nx ρ' q F' H' σ' r (f2.trans (f3.trans s)), fun ρ' q F' H' σ' r s => ⟨F', ρ', r, f2.trans (f3.trans s), q⟩, k.ex⟩
    | false =>
      rw [if_neg (by decide)] at w3 ⊢
      exact k.nx ρ3 w3 F3 H3 σ2 rel3 (f2.trans f3)
theorem s_for (hp : PassesOwn (model X.prog X.w) X.A X.env X.xe) (hc : X.calm = true) (hi : PI X tg iter (rdI ((X.K, X.w) : KW) M k rit)) (hg : PG X tg (rdG ((X.K, X.w) : KW) t)) (hb : PSs X sts (rdB ((X.K, X.w) : KW) M rss)) (hs : notSet iter = true) : PS X (.For tg iter sts [] pos) (rdSt ((X.K, X.w) : KW) M (.for_ t k rit rss)) :=
  PS.imp (ps_for hp hc hi hg hb fun x => not_folded hs _ x) fun E σ H ⟨T, F, ρ, Kp, rel, w, kk⟩ => by
    rw [wpS] at w
    refine ⟨T, F, ρ, _, _, rel, w, fun xs ρ1 w1 F1 H1 J S' rel1 f1 h1 gv s1 => ?_, kk.ex⟩
    generalize hbb : (fun (ρ : Rho) (K' : PEnds) => wpB M.G M.Γ rss ρ K') = bb at w1
    generalize hgg : (fun (x : D) (ρ : Rho) (Q : Rho → Prop) => tgR t x ρ Q) = gg at w1
    refine ⟨fun i m σ H => m + i = xs.length ∧ ∃ F' ρ', Rel ((X.K, X.w) : KW) T F' H ρ' σ ∧ Sub F F' ∧ S' F' ∧ forN gg bb Kp (xs.drop i) ρ', ⟨xs.length, rfl, F1, ρ1, rel1, f1, s1, w1⟩, fun i m σ2 H2 ⟨hm, F2, ρ2, rel2, f2, s2, w2⟩ => ?_⟩
    cases hd : xs.drop i with
    | nil =>
      have hi : xs.length ≤ i := List.drop_eq_nil_iff.mp hd
      rw [hd] at w2
      exact .inl ⟨gv.stop i F2 H2 s2 rel2.fin.fh hi, kk.nx ρ2 w2 F2 H2 σ2 rel2 f2⟩
    | cons d rest =>
      have hi : i < xs.length := by
        rcases Nat.lt_or_ge i xs.length with h | h
        · exact h
        · rw [List.drop_eq_nil_of_le h] at hd
          cases hd
      have hx : xs[i]? = some d := by
        have z := congrArg (·[0]?) hd
        simpa using z
      have hr : xs.drop (i + 1) = rest := by
        rw [← List.drop_drop, hd]
        rfl
      rw [hd] at w2
      unfold forN at w2
      refine .inr ⟨gv.go i F2 H2 s2 rel2.fin.fh hi, fun σ' H' => (m - 1) + (i + 1) = xs.length ∧ ∃ F' ρ', Rel ((X.K, X.w) : KW) T F' H' ρ' σ' ∧ Sub F F' ∧ S' F' ∧ forN gg bb Kp (xs.drop (i + 1)) ρ', fun σ' H' z => ⟨m - 1, by omega, z⟩, fun x H3 y => ?_⟩
      obtain ⟨F3, fn, rp⟩ := gv.yld i F2 H2 x H3 d s2 rel2.fin.fh hx y
      rw [← hgg] at w2
      refine ⟨T, F3, ρ2, d, _, rel2.trans fn, rp, w2, fun ρ4 σ4 w4 rel4 _ _ => ?_⟩
      rw [← hbb] at w4
      refine ⟨T, F3, ρ4, _, rel4, w4, ?_⟩
      rw [hbb, hgg, hr]
      exact ⟨fun ρ' q F' H' σ' r s => ⟨by omega, F', ρ', r, f2.trans (fn.base.trans s), gv.mono _ _ (fn.base.trans s) s2, q⟩, kk.rt, fun ρ' q F' H' σ' r s => kk.nx ρ' q F' H' σ' r (f2.trans (fn.base.trans s)),
        fun ρ' q F' H' σ' r s => ⟨by omega, F', ρ', r, f2.trans (fn.base.trans s), gv.mono _ _ (fn.base.trans s) s2, q⟩, kk.ex⟩

/-! x[i] op= e -/
theorem get_L : PGet X (rIxL X.K) := by
  intro pins s σ H o i ov iv Q I ro ri h
  obtain ⟨p, xs, n, z, rfl, rfl, hq, he, q⟩ := h
  cases ro
  obtain ⟨t, rfl⟩ := ri
  obtain ⟨its, r, pl, hz⟩ := I.list hq
  obtain ⟨j, h1, h2, h3, h4, h5⟩ := atI_get he
  obtain ⟨w, ew, rw'⟩ := r.get h2
  have hl := r.length
  have hn := line63
  have fin : EP X pins σ Q w s := ⟨z, H, I, rw', q⟩
  by_cases h0 : 0 ≤ n
  · have hj : n.toNat = j := by
      rw [seqIndex_of h0 h5] at h1
      exact Option.some.inj h1
    exact wpAny_getItem_list pl.isList h0 (by omega) (by rw [hj]; simpa using ew) fin
  · have hj : (n + (its.toArray.size : Int)).toNat = j := by
      rw [seqIndex_neg (by omega) h4] at h1
      rw [List.size_toArray, ← hl]
      exact Option.some.inj h1
    exact wpAny_getItem_list_neg pl.isList (by omega) (by rw [List.size_toArray] <;> omega) (by omega) (by rw [hj]; simpa using ew) fin
theorem aug_store {i : Expr} (h : notSlice i = true) : ∀ ov iv new, augStore i ov iv new = (do holding [new, ov, iv] (setItem ov iv new); release [new, ov, iv] []; pure .next) := by
  intro ov iv new
  cases i <;> first | rfl | cases h
theorem s_augx {o : Bop} {f : Int → Int → Int} {p1 pos' : Pos} (ho : ipOf o = some f) (hu : X.A.units + 65 < cLine) (hN : X.N[i]? = some x) (hv : Vis X.env.scope x) (hd : (x == ("__debug__" : Str)) = false) (hcd : (x == ("__classdict__" : Str)) = false) (hb : PE X b (rdE ((X.K, X.w) : KW) M rb)) (ha : PE X a (rdE ((X.K, X.w) : KW) M ra)) (ns : notSlice b = true) :
    PS X (.AugAssign (.Subscript (.Name x p1) b pos') o.op a pos) (rdSt ((X.K, X.w) : KW) M (.augx i rb o ra)) :=
  PS.imp (ps_augS (pe_var hN hv hd hcd) hb get_L ha (ip_of ho) (set_N hu) (aug_store ns)) fun E σ H ⟨T, F, ρ, Kp, rel, w, k⟩ => by
    rw [wpS] at w
    obtain ⟨p, c0, z1, z2, z3, z4, w⟩ := own_val rel w
    refine ⟨_, z1, T, F, ρ, _, _, rel, w, fun d s ρ1 w1 F1 H1 v rel1 f1 h1 ok1 => ?_, k.ex⟩
    obtain ⟨F2, f2, rel2, rp⟩ := rel1.frz ok1
    obtain ⟨p', c, y1, y2, y3, y4, w2⟩ := own_val rel2 w1
    rw [z1] at y1
    cases y1
    obtain ⟨xs2, rfl, w2⟩ := list_val w2
    obtain ⟨xs, q1, r⟩ := y4
    obtain ⟨jj, dd, rfl, e, w2⟩ := w2
    have rpi := rp
    cases rp
    have e' := e
    unfold atI at e'
    obtain ⟨kk, e1, e2⟩ := Option.bind_eq_some_iff.mp e'
    obtain ⟨vv, t1, t2⟩ := r.get e2
    refine ⟨p, xs, jj, vv, rfl, rfl, .inl (.inl q1), by unfold atI; rw [r.length, e1]; exact t1, T, F2, _, _, _, rel2, w2, fun d3 s3 ρ3 w3 F3 H3 v3 rel3 f3 h3 ok3 => ?_, k.ex⟩
    obtain ⟨n, m, rfl, rfl, w5⟩ := binI_ip ho w3
    cases t2
    refine ⟨n, m, rfl, (ok3.top rel3).int, ?_⟩
    obtain ⟨p', c, x1, x2, x3, x4, w4⟩ := own_val rel3 w5
    rw [z1] at x1
    cases x1
    exact set_core rel3 z1 x2 x4 (.im (.int jj)) (fun _ => .int jj) (.int (f n m)) w4 fun c' H' q r => k.nx _ q F3 H' _ r (f1.trans (f2.trans f3))

/-! raise -/
theorem s_raise {xc : Nat → Addr} {W : WX} {n : Nat} (hc : X.calm = true) (tk : Takes X W) (hW : ∀ H σ, M.xE n H → W (.ref (xc n)) none σ H) (he : PMk X e (fun _ H Q => Q (.ref (xc n)) none H)) : PS X (.Raise (some e) none pos) (rdSt ((X.K, X.w) : KW) M (.raise n)) :=
  PS.imp (ps_raise hc tk he) fun E σ H ⟨T, F, ρ, Kp, rel, w, k⟩ => by
    rw [wpS] at w
    exact hW _ _ (k.ex n w H rel.fin.sub)
end
end Pe
end

section
set_option maxRecDepth 100000
/-! Pe15: a checker: this expression of the small language is that expression of the program. -/
namespace Pe
open PySem PySem.Spec PyProof.Rows L2

/-- what is known of the names -/
structure Cc where
  N : List Str
  sc : Scope
  fs : Nat → Option Str
  gs : Nat → Option Str
  xs : Nat → Option Str
  bl : Str → Bool
  blk : Bool
def dbg : Str := ("__debug__" : Str)
def cld : Str := ("__classdict__" : Str)
def plainName (x : Str) : Bool := decide (x ≠ dbg) && decide (x ≠ cld)
def visB (sc : Scope) (x : Str) : Bool := match sc.names.lookup x with
  | some .local => true
  | some .cell => true
  | some .free => true
  | _ => false
def locB (c : Cc) (x : Str) : Bool := match c.sc.names.lookup x with
  | some .local => true
  | some .cell => !c.blk
  | _ => false
def glB (sc : Scope) (x : Str) : Bool := decide (sc.names.lookup x = some .globalImplicit)
def okName (c : Cc) (i : Nat) (x : Str) : Bool := decide (c.N[i]? = some x) && visB c.sc x && plainName x
def okGl (c : Cc) (x : Str) : Bool := glB c.sc x && plainName x
def okBl (c : Cc) (x : Str) : Bool := okGl c x && c.bl x && decide (x ≠ ("__name__" : Str))
def okK : D → Expr → Bool
  | .int i, .Constant (.int j) _ _ => decide (i = j)
  | .str i, .Constant (.str j) _ _ => decide (i = j)
  | .bool i, .Constant (.bool j) _ _ => decide (i = j)
  | .none, .Constant .none _ _ => true
  | _, _ => false
mutual
def okG (c : Cc) : Tgt → Expr → Bool
  | .nm i, e => match e with
    | .Name x _ => decide (c.N[i]? = some x) && locB c x && plainName x
    | _ => false
  | .tp ts, e => match e with
    | .Tuple es _ _ => okGs c ts es
    | _ => false
def okGs (c : Cc) : Tgts → List Expr → Bool
  | .nil, es => es.isEmpty
  | .cons t ts, es => match es with
    | e :: es => okG c t e && okGs c ts es
    | [] => false
end
def ownOf (N : List Str) (own : List Nat) : List (Str × Nat) := own.filterMap fun i => (N[i]?).map fun x => (x, i)
mutual
def okE (c : Cc) : CE → Bool → Expr → Bool
  | .k d, _, e => okK d e
  | .v i, _, e => match e with
    | .Name x _ => okName c i x
    | _ => false
  | .g n, _, e => match e with
    | .Name x _ => decide (c.gs n = some x) && okGl c x
    | _ => false
  | .bin o ra rb, _, e => match e with
    | .BinOp a op b _ => decide (op = o.op) && okE c ra false a && okE c rb false b
    | _ => false
  | .neg ra, _, e => match e with
    | .UnaryOp .USub a _ => okE c ra false a
    | _ => false
  | .cmp o ra rb, _, e => match e with
    | .Compare a [op] [b] _ => decide (op = o.op) && okE c ra false a && okE c rb false b && notSet b
    | _ => false
  | .chain o p ra rb rc, _, e => match e with
    | .Compare a [op, op'] [b, d] _ => decide (op = o.op) && decide (op' = p.op) && okE c ra false a && okE c rb false b && okE c rc false d && notSet d
    | _ => false
  | .bnot ra, t, e => match e with
    | .UnaryOp .Not a _ => okE c ra t a
    | _ => false
  | .band ra rb, t, e => match e with
    | .BoolOp .And [a, b] _ => okE c ra t a && okE c rb t b
    | .BoolOp .And (a :: b :: b' :: rest) p => okE c ra t a && okE c rb t (.BoolOp .And (b :: b' :: rest) p)
    | _ => false
  | .bor ra rb, t, e => match e with
    | .BoolOp .Or [a, b] _ => okE c ra t a && okE c rb t b
    | .BoolOp .Or (a :: b :: b' :: rest) p => okE c ra t a && okE c rb t (.BoolOp .Or (b :: b' :: rest) p)
    | _ => false
  | .ifx rc ra rb, t, e => match e with
    | .IfExp d a b _ => !t && okE c rc true d && okE c ra false a && okE c rb false b
    | _ => false
  | .tup rs, t, e => match e with
    | .Tuple es _ _ => !t && okA c rs es
    | _ => false
  | .lst rs, t, e => match e with
    | .List es _ => !t && okA c rs es
    | _ => false
  | .dct rs, t, e => match e with
    | .Dict ks vs _ => !t && okP c rs ks vs && decide (ks.length ≤ 15)
    | _ => false
  | .call f rs, _, e => match e with
    | .Call (.Name x _) es [] _ => decide (c.fs f = some x) && okGl c x && okA c rs es
    | _ => false
  | .blt b rs, _, e => match e with
    | .Call (.Name x _) es [] _ => okBl c x && (okRg c rs b x es || ((match bltVal b with
        | some (_, id) => decide (x = Str.ofString id)
        | none => false) && okA c rs es && !es.isEmpty))
    | _ => false
  | .mt m ro rs, _, e => match e with
    | .Call (.Attribute o nm apos) es [] cpos => okE c ro false o && isName o && (apos.endLine == cpos.line) && es.all notStar && okM c rs m nm es
    | _ => false
  | .ix ra rb, _, e => match e with
    | .Subscript a b _ => okE c ra false a && okE c rb false b && notSlice b
    | _ => false
  | .sl ra lo hi, _, e => match e with
    | .Subscript a (.Slice l h none _) _ => okE c ra false a && okO c lo l && okO c hi h
    | _ => false
  | .rv ra, _, e => match e with
    | .Subscript a (.Slice none none (some (.UnaryOp .USub (.Constant (.int i) _ _) _)) _) _ => decide (i = 1) && okE c ra false a
    | _ => false
  | .comp re tg k it cs own, t, e => match e with
    | .ListComp elt [⟨tge, iter, ifs, as⟩] scope _ => !t && decide (as = 0) && decide ((ownOf c.N own).map (·.2) = own) && blkC c.N c.sc scope (ownOf c.N own) && (slotsT tg).all (fun i => decide (i ∈ own)) &&
        okG { c with sc := relS scope c.sc, blk := true } tg tge && okI c k it tge iter && okC { c with sc := relS scope c.sc, blk := true } cs ifs && okE { c with sc := relS scope c.sc, blk := true } re false elt && notSet iter
    | _ => false
/-- tuple(range(n)), list(range(n)) -/
def okRg (c : Cc) : CEs → Blt → Str → List Expr → Bool
  | .nil, _, _, _ => false
  | .cons ra rs, b, x, es => match rs, b, es with
    | .nil, .tupRg1, [.Call (.Name y _) [a] [] _] => decide (x = ("tuple" : Str)) && decide (y = ("range" : Str)) && okBl c y && okE c ra false a && notStar a
    | .nil, .listRg1, [.Call (.Name y _) [a] [] _] => decide (x = ("list" : Str)) && decide (y = ("range" : Str)) && okBl c y && okE c ra false a && notStar a
    | _, _, _ => false
/-- methods' arguments -/
def okM (c : Cc) : CEs → Mth → Str → List Expr → Bool
  | .nil, _, _, _ => false
  | .cons rk rs, m, nm, es => match m, rs, es with
    | .get2, .cons rd .nil, [k, d] => decide (nm = ("get" : Str)) && okE c rk false k && okE c rd false d
    | _, _, _ => false
def okA (c : Cc) : CEs → List Expr → Bool
  | .nil, es => es.isEmpty
  | .cons r rs, es => match es with
    | e :: es => notStar e && okE c r false e && okA c rs es
    | [] => false
def okP (c : Cc) : CEs → List (Option Expr) → List Expr → Bool
  | .nil, ks, vs => ks.isEmpty && vs.isEmpty
  | .cons rk rs, ks, vs => match rs, ks, vs with
    | .cons rv rs, some k :: ks, v :: vs => okE c rk false k && okE c rv false v && okP c rs ks vs
    | _, _, _ => false
def okO (c : Cc) : CEs → Option Expr → Bool
  | .nil, e => e.isNone
  | .cons r rs, e => match rs, e with
    | .nil, some e => okE c r false e
    | _, _ => false
def okC (c : Cc) : CEs → List Expr → Bool
  | .nil, es => es.isEmpty
  | .cons r rs, es => match rs, es with
    | .nil, [e] => okE c r true e
    | _, _ => false
def okI (c : Cc) : Ik → CEs → Expr → Expr → Bool
  | _, .nil, _, _ => false
  | k, .cons r rs, tg, e => match k with
    | .seq => (match rs with | .nil => okE c r false e | _ => false)
    | .keys => (match rs with | .nil => okE c r false e | _ => false)
    | .items => (match rs, tg, e with
      | .nil, .Tuple _ _ _, .Call (.Attribute a nm apos) [] [] cpos => decide (nm = ("items" : Str)) && okE c r false a && isName a && (apos.endLine == cpos.line)
      | _, _, _ => false)
    | .range => (match rs, e with
      | .nil, .Call (.Name y _) [a] [] _ => decide (y = ("range" : Str)) && okBl c y && okE c r false a && notStar a
      | .cons r2 .nil, .Call (.Name y _) [a, b] [] _ => decide (y = ("range" : Str)) && okBl c y && okE c r false a && notStar a && okE c r2 false b && notStar b
      | .cons r2 (.cons r3 .nil), .Call (.Name y _) [a, b, d] [] _ => decide (y = ("range" : Str)) && okBl c y && okE c r false a && notStar a && okE c r2 false b && notStar b && okE c r3 false d && notStar d
      | _, _ => false)
    | _ => false
end
end Pe
end

section
set_option maxRecDepth 100000
set_option maxHeartbeats 4000000
/-! Pe16: the checker is sound: expressions. -/
namespace Pe
open PySem PySem.Spec PyProof.Rows L2

structure Good (X : Cx) (M : Mean) (xc : Nat → Addr) (c : Cc) : Prop where
  N : X.N = c.N
  nd : X.N.Nodup
  sc : X.env.scope = c.sc
  calm : X.calm = true
  hu : X.A.units + 65 < cLine
  fn : c.blk = false → ∀ x, X.fn x = true
  gl : ∀ n x, c.gs n = some x → ∃ u v, X.mg x = some u ∧ RelV v u ∧ ∀ F, Rep (X.K, X.w) F v (M.G n)
  bl : ∀ x, c.bl x = true → X.mg x = none
  fns : ∀ f x, c.fs f = some x → Prom X M xc x f
theorem plainName_d {x : Str} (h : plainName x = true) : (x == ("__debug__" : Str)) = false ∧ (x == ("__classdict__" : Str)) = false := by
  unfold plainName at h
  rw [Bool.and_eq_true, decide_eq_true_eq, decide_eq_true_eq] at h
  exact ⟨beq_eq_false_iff_ne.mpr h.1, beq_eq_false_iff_ne.mpr h.2⟩
theorem visB_ok {sc : Scope} {x : Str} (h : visB sc x = true) : Vis sc x := by
  unfold visB at h
  split at h
  · exact .inl ‹_›
  · exact .inr (.inl ‹_›)
  · exact .inr (.inr ‹_›)
  · cases h
section
variable {X : Cx} {M : Mean} {xc : Nat → Addr} {c : Cc}
theorem Good.name (g : Good X M xc c) {i : Nat} {x : Str} (h : okName c i x = true) : X.N[i]? = some x ∧ Vis X.env.scope x ∧ (x == ("__debug__" : Str)) = false ∧ (x == ("__classdict__" : Str)) = false := by
  unfold okName at h
  rw [Bool.and_eq_true, Bool.and_eq_true, decide_eq_true_eq] at h
  obtain ⟨⟨h1, h2⟩, h3⟩ := h
  exact ⟨by rw [g.N]; exact h1, by rw [g.sc]; exact visB_ok h2, plainName_d h3⟩
theorem Good.gl' (g : Good X M xc c) {x : Str} (h : okGl c x = true) : Gl X x ∧ (x == ("__debug__" : Str)) = false := by
  unfold okGl glB at h
  rw [Bool.and_eq_true, decide_eq_true_eq] at h
  refine ⟨?_, (plainName_d h.2).1⟩
  show X.env.scope.names.lookup x = _
  rw [g.sc]
  exact h.1
theorem Good.blt (g : Good X M xc c) {x : Str} (h : okBl c x = true) : Gl X x ∧ (x == ("__debug__" : Str)) = false ∧ X.mg x = none ∧ x ≠ "__name__" := by
  unfold okBl at h
  rw [Bool.and_eq_true, Bool.and_eq_true, decide_eq_true_eq] at h
  obtain ⟨z1, z2⟩ := g.gl' h.1.1
  exact ⟨z1, z2, g.bl x h.1.2, h.2⟩
theorem Good.store (g : Good X M xc c) {x : Str} (h : locB c x = true) : Loc X.env.scope x ∧ (X.fn x = true ∨ X.env.scope.names.lookup x = some .local) := by
  unfold locB at h
  rw [g.sc]
  split at h
  · rename_i e
    exact ⟨.inl e, .inr e⟩
  · rename_i e
    refine ⟨.inr e, .inl (g.fn ?_ x)⟩
    cases hb : c.blk
    · rfl
    · rw [hb] at h
      cases h
  · cases h
/-- in a comprehension's block -/
theorem Good.block (g : Good X M xc c) (s : Shared) (H : Hp) (scope : Scope) (cl : List (Str × Addr)) (C : Addr) (fp : List Addr) : Good (X.blk s H scope (compEnvC scope cl C X.env) fp) M.calm xc { c with sc := relS scope c.sc, blk := true } where
  N := g.N
  nd := g.nd
  sc := by
    show relabel scope X.env = _
    rw [← g.sc]
    rfl
  calm := g.calm
  hu := g.hu
  fn := fun h => by cases h
  gl := g.gl
  bl := g.bl
  fns := fun f x e => by
    obtain ⟨CX, k, fa, fd, ps, E, F, hr, hm, hk, hb, hx, hE, hn, hF⟩ := g.fns f x e
    exact ⟨CX, k, fa, fd, ps, fun _ _ _ => False, F, hr, hm, hk, hb, fun _ _ _ _ _ _ _ h => (hF _ _ _ _ _ h).elim, fun c H' z => z.elim, hn, hF⟩
structure Snd (X : Cx) (M : Mean) (r : CE) (t : Bool) (e : Expr) : Prop where
  val : t = false → PE X e (rdE (X.K, X.w) M r)
  tst : t = true → PT X e (rdT (X.K, X.w) M r)
  bop : t = true → ∀ op vs p, e = .BoolOp op vs p → PW X e (rdT (X.K, X.w) M r)
theorem Snd.of {r : CE} {t : Bool} {e : Expr} (h : PE X e (rdE ((X.K, X.w) : KW) M r)) (hp : plainT e = true) : Snd X M r t e := ⟨fun _ => h, fun _ => t_val h hp, fun _ op vs p e => by subst e; cases hp⟩
theorem Snd.two {r : CE} {t : Bool} {e : Expr} (h : PE X e (rdE ((X.K, X.w) : KW) M r)) (h' : PT X e (rdT ((X.K, X.w) : KW) M r)) (hp : ∀ op vs p, e ≠ .BoolOp op vs p) : Snd X M r t e := ⟨fun _ => h, fun _ => h', fun _ op vs p e => absurd e (hp op vs p)⟩
theorem blt_boot {b : Blt} {ty : Bool} {id : String} (h : bltVal b = some (ty, id)) : bootBuiltins (Str.ofString id) = some (if ty = true then .type id else .builtin id) := by
  cases b <;> cases h <;> rfl
theorem e_blt {b : Blt} {ty : Bool} {id : String} {x : Str} {a : Expr} {es : List Expr} {rs : CEs} {p pos : Pos} (g : Good X M xc c) (hb : bltVal b = some (ty, id)) (hx : x = Str.ofString id) (h : okBl c x = true) (ha : PA X (a :: es) (rdR ((X.K, X.w) : KW) M rs)) (hs : (a :: es).all notStar = true) :
    PE X (.Call (.Name x p) (a :: es) [] pos) (rdE ((X.K, X.w) : KW) M (.blt b rs)) := by
  obtain ⟨h1, h2, h3, h4⟩ := g.blt h
  have hv := blt_boot hb
  rw [← hx] at hv
  cases ty with
  | false => exact e_bltF hb g.calm h1 h3 (by rw [hv]; rfl) h4 h2 ha hs
  | true => exact e_bltT hb g.calm h1 h3 (by rw [hv]; rfl) h4 h2 ha hs
theorem e_k {d : D} {e : Expr} (h : okK d e = true) : PE X e (rdE ((X.K, X.w) : KW) M (.k d)) ∧ plainT e = true := by
  unfold okK at h
  split at h
  · rw [decide_eq_true_eq] at h
    subst h
    exact ⟨e_val pe_int (fun F => .int _) (fun Xp ρ Qp w => by rw [wpE] at w; exact w), rfl⟩
  · rw [decide_eq_true_eq] at h
    subst h
    exact ⟨e_val pe_str (fun F => .str _) (fun Xp ρ Qp w => by rw [wpE] at w; exact w), rfl⟩
  · rw [decide_eq_true_eq] at h
    subst h
    exact ⟨e_val pe_bl (fun F => .bl _) (fun Xp ρ Qp w => by rw [wpE] at w; exact w), rfl⟩
  · exact ⟨e_val pe_non (fun F => .non) (fun Xp ρ Qp w => by rw [wpE] at w; exact w), rfl⟩
  · cases h
end
section
variable {xc : Nat → Addr}
mutual
theorem sound_G : ∀ (t : Tgt) {X : Cx} {M : Mean} {c : Cc} (e : Expr), okG c t e = true → Good X M xc c → PG X e (rdG (X.K, X.w) t) ∧ isTgt e = true
  | .nm i, X, M, c, e, h, g => by
    unfold okG at h
    split at h
    · simp only [Bool.and_eq_true, decide_eq_true_eq] at h
      obtain ⟨⟨h1, h2⟩, h3⟩ := h
      obtain ⟨z1, z2⟩ := g.store h2
      exact ⟨g_nm g.nd (by rw [g.N]; exact h1) z1 z2, rfl⟩
    · cases h
  | .tp ts, X, M, c, e, h, g => by
    unfold okG at h
    split at h
    · obtain ⟨h1, h2, h3⟩ := sound_Gs ts _ h g
      exact ⟨g_tp g.calm h1 h2 h3, rfl⟩
    · cases h
theorem sound_Gs : ∀ (ts : Tgts) {X : Cx} {M : Mean} {c : Cc} (es : List Expr), okGs c ts es = true → Good X M xc c → PGs X es (rdGs (X.K, X.w) ts) ∧ es.all isTgt = true ∧ es.length = lenT ts
  | .nil, X, M, c, es, h, g => by
    unfold okGs at h
    rw [List.isEmpty_iff] at h
    subst h
    exact ⟨gs_nil, rfl, rfl⟩
  | .cons t ts, X, M, c, es, h, g => by
    unfold okGs at h
    split at h
    · rw [Bool.and_eq_true] at h
      obtain ⟨h1, h2⟩ := sound_G t _ h.1 g
      obtain ⟨h3, h4, h5⟩ := sound_Gs ts _ h.2 g
      exact ⟨gs_cons h1 h3 h2, by rw [List.all_cons, h2, h4]; rfl, by rw [List.length_cons, h5]; rfl⟩
    · cases h
end

theorem op_of {o : Bop} {op : Operator} (h : decide (op = o.op) = true) : op = o.op := of_decide_eq_true h
mutual
theorem sound_E : ∀ (r : CE) {X : Cx} {M : Mean} {c : Cc} (t : Bool) (e : Expr), okE c r t e = true → Good X M xc c → Snd X M r t e
  | .k d, X, M, c, t, e, h, g => by
    unfold okE at h
    obtain ⟨h1, h2⟩ := e_k h
    exact .of h1 h2
  | .v i, X, M, c, t, e, h, g => by
    unfold okE at h
    split at h
    · obtain ⟨h1, h2, h3, h4⟩ := g.name h
      exact .of (e_v h1 h2 h3 h4) rfl
    · cases h
  | .g n, X, M, c, t, e, h, g => by
    unfold okE at h
    split at h
    · simp only [Bool.and_eq_true, decide_eq_true_eq] at h
      obtain ⟨u, v, h1, h2, h3⟩ := g.gl _ _ h.1
      obtain ⟨h4, h5⟩ := g.gl' h.2
      exact .of (e_val (pe_glob h4 h1 h2 h5) h3 (fun Xp ρ Qp w => by rw [wpE] at w; exact w)) rfl
    · cases h
  | .bin o ra rb, X, M, c, t, e, h, g => by
    unfold okE at h
    split at h
    · simp only [Bool.and_eq_true, decide_eq_true_eq] at h
      obtain ⟨⟨rfl, h1⟩, h2⟩ := h
      exact .of (e_bin ((sound_E ra _ _ h1 g).val rfl) ((sound_E rb _ _ h2 g).val rfl)) rfl
    · cases h
  | .neg ra, X, M, c, t, e, h, g => by
    unfold okE at h
    split at h
    · exact .of (e_neg ((sound_E ra _ _ h g).val rfl)) rfl
    · cases h
  | .cmp o ra rb, X, M, c, t, e, h, g => by
    unfold okE at h
    split at h
    · simp only [Bool.and_eq_true, decide_eq_true_eq] at h
      obtain ⟨⟨⟨rfl, h1⟩, h2⟩, h3⟩ := h
      have a1 := (sound_E ra _ _ h1 g).val rfl
      have a2 := (sound_E rb _ _ h2 g).val rfl
      exact .two (e_cmp g.hu a1 a2 h3) (t_cmp g.hu a1 a2 h3) (fun _ _ _ => nofun)
    · cases h
  | .chain o p ra rb rc, X, M, c, t, e, h, g => by
    unfold okE at h
    split at h
    · simp only [Bool.and_eq_true, decide_eq_true_eq] at h
      obtain ⟨⟨⟨⟨⟨rfl, rfl⟩, h1⟩, h2⟩, h3⟩, h4⟩ := h
      have a1 := (sound_E ra _ _ h1 g).val rfl
      have a2 := (sound_E rb _ _ h2 g).val rfl
      have a3 := (sound_E rc _ _ h3 g).val rfl
      exact .two (e_chain g.hu a1 a2 a3 h4) (t_chain g.hu a1 a2 a3 h4) (fun _ _ _ => nofun)
    · cases h
  | .bnot ra, X, M, c, t, e, h, g => by
    unfold okE at h
    split at h
    · have a1 := sound_E ra t _ h g
      exact ⟨fun z => e_not (a1.val z), fun z => t_not (a1.tst z), fun _ _ _ _ => nofun⟩
    · cases h
  | .band ra rb, X, M, c, t, e, h, g => by
    unfold okE at h
    split at h
    · rename_i a b pp
      rw [Bool.and_eq_true] at h
      have a1 := sound_E ra t _ h.1 g
      have a2 := sound_E rb t _ h.2 g
      have w : t = true → PW X (.BoolOp .And [a, b] pp) (rdT (X.K, X.w) M (.band ra rb)) := fun z => PW.imp (pw_and (a1.tst z) (pw_and1 (a2.tst z))) bandT_core
      exact ⟨fun z => PE.imp (pe_and (a1.val z) (pe_one (a2.val z))) band_core, fun z => (w z).pt, fun z op vs p e => by cases e; exact w z⟩
    · rename_i a b b' rest pp
      rw [Bool.and_eq_true] at h
      have a1 := sound_E ra t _ h.1 g
      have a2 := sound_E rb t _ h.2 g
      have w : t = true → PW X (.BoolOp .And (a :: b :: b' :: rest) pp) (rdT (X.K, X.w) M (.band ra rb)) := fun z => PW.imp (pw_and (a1.tst z) (a2.bop z _ _ _ rfl)) bandT_core
      exact ⟨fun z => PE.imp (pe_and (a1.val z) (a2.val z)) band_core, fun z => (w z).pt, fun z op vs p e => by cases e; exact w z⟩
    · cases h
  | .bor ra rb, X, M, c, t, e, h, g => by
    unfold okE at h
    split at h
    · rename_i a b pp
      rw [Bool.and_eq_true] at h
      have a1 := sound_E ra t _ h.1 g
      have a2 := sound_E rb t _ h.2 g
      have w : t = true → PW X (.BoolOp .Or [a, b] pp) (rdT (X.K, X.w) M (.bor ra rb)) := fun z => PW.imp (pw_or (a1.tst z) (pw_or1 (a2.tst z))) borT_core
      exact ⟨fun z => PE.imp (pe_or (a1.val z) (pe_one (a2.val z))) bor_core, fun z => (w z).pt, fun z op vs p e => by cases e; exact w z⟩
    · rename_i a b b' rest pp
      rw [Bool.and_eq_true] at h
      have a1 := sound_E ra t _ h.1 g
      have a2 := sound_E rb t _ h.2 g
      have w : t = true → PW X (.BoolOp .Or (a :: b :: b' :: rest) pp) (rdT (X.K, X.w) M (.bor ra rb)) := fun z => PW.imp (pw_or (a1.tst z) (a2.bop z _ _ _ rfl)) borT_core
      exact ⟨fun z => PE.imp (pe_or (a1.val z) (a2.val z)) bor_core, fun z => (w z).pt, fun z op vs p e => by cases e; exact w z⟩
    · cases h
  | .ifx rc ra rb, X, M, c, t, e, h, g => by
    unfold okE at h
    split at h
    · simp only [Bool.and_eq_true, Bool.not_eq_true'] at h
      obtain ⟨⟨⟨rfl, h1⟩, h2⟩, h3⟩ := h
      exact ⟨fun z => e_ifx ((sound_E rc _ _ h1 g).tst rfl) ((sound_E ra _ _ h2 g).val rfl) ((sound_E rb _ _ h3 g).val rfl), nofun, nofun⟩
    · cases h
  | .tup rs, X, M, c, t, e, h, g => by
    unfold okE at h
    split at h
    · simp only [Bool.and_eq_true, Bool.not_eq_true'] at h
      exact ⟨fun z => e_tup (sound_A rs _ h.2 g).1, fun z => (by rw [h.1] at z; cases z), fun z => (by rw [h.1] at z; cases z)⟩
    · cases h
  | .lst rs, X, M, c, t, e, h, g => by
    unfold okE at h
    split at h
    · simp only [Bool.and_eq_true, Bool.not_eq_true'] at h
      exact ⟨fun z => e_lst (sound_A rs _ h.2 g).1, fun z => (by rw [h.1] at z; cases z), fun z => (by rw [h.1] at z; cases z)⟩
    · cases h
  | .dct rs, X, M, c, t, e, h, g => by
    unfold okE at h
    split at h
    · rename_i ks vs p
      simp only [Bool.and_eq_true, Bool.not_eq_true', decide_eq_true_eq] at h
      obtain ⟨⟨h1, h2⟩, h3⟩ := h
      refine ⟨fun z => ?_, fun z => (by rw [h1] at z; cases z), fun z => (by rw [h1] at z; cases z)⟩
      obtain ⟨z1, z2, z3, z4⟩ := sound_P rs ks vs h2 g (pos := p)
      cases ks with
      | nil =>
        cases vs with
        | nil =>
          cases rs with
          | nil => exact e_dnew
          | cons _ rs =>
            unfold okP at h2
            split at h2
            · rename_i e1 e2
              cases e1
            · cases h2
        | cons _ _ => cases z4
      | cons k ks => exact e_dct g.hu z1 z2 z3 z4 nofun h3
    · cases h
  | .call f rs, X, M, c, t, e, h, g => by
    unfold okE at h
    split at h
    · rename_i x p es pos
      simp only [Bool.and_eq_true, decide_eq_true_eq] at h
      obtain ⟨⟨h1, h2⟩, h3⟩ := h
      obtain ⟨z1, z2⟩ := g.gl' h2
      obtain ⟨a1, a2, a3⟩ := sound_A rs es h3 g
      cases es with
      | nil =>
        cases rs with
        | nil => exact .of (e_call0 (g.fns f x h1) z1 z2) rfl
        | cons _ _ =>
          unfold okA at h3
          cases h3
      | cons a es => exact .of (e_call (g.fns f x h1) z1 z2 a1 a3) rfl
    · cases h
  | .blt b rs, X, M, c, t, e, h, g => by
    unfold okE at h
    split at h
    · rename_i x p es pos
      rw [Bool.and_eq_true, Bool.or_eq_true] at h
      obtain ⟨h1, h2 | h2⟩ := h
      · exact .of (sound_Rg rs b x es h2 h1 g) rfl
      · simp only [Bool.and_eq_true, Bool.not_eq_true'] at h2
        obtain ⟨⟨h2, h3⟩, h4⟩ := h2
        obtain ⟨a1, a2, a3⟩ := sound_A rs es h3 g
        split at h2
        · rename_i ty id hb
          rw [decide_eq_true_eq] at h2
          cases es with
          | nil => cases h4
          | cons a es => exact .of (e_blt g hb h2 h1 a2 a3) rfl
        · cases h2
    · cases h
  | .mt m ro rs, X, M, c, t, e, h, g => by
    unfold okE at h
    split at h
    · simp only [Bool.and_eq_true] at h
      obtain ⟨⟨⟨⟨h1, h2⟩, h3⟩, h4⟩, h5⟩ := h
      exact .of (sound_M rs m _ _ h5 ((sound_E ro _ _ h1 g).val rfl) h2 h3 h4 g) rfl
    · cases h
  | .ix ra rb, X, M, c, t, e, h, g => by
    unfold okE at h
    split at h
    · simp only [Bool.and_eq_true] at h
      exact .of (e_ix g.hu ((sound_E ra _ _ h.1.1 g).val rfl) ((sound_E rb _ _ h.1.2 g).val rfl) h.2) rfl
    · cases h
  | .sl ra lo hi, X, M, c, t, e, h, g => by
    unfold okE at h
    split at h
    · simp only [Bool.and_eq_true] at h
      exact .of (e_sl ((sound_E ra _ _ h.1.1 g).val rfl) (sound_O lo _ h.1.2 g) (sound_O hi _ h.2 g)) rfl
    · cases h
  | .rv ra, X, M, c, t, e, h, g => by
    unfold okE at h
    split at h
    · simp only [Bool.and_eq_true, decide_eq_true_eq] at h
      obtain ⟨rfl, h⟩ := h
      exact .of (e_rv ((sound_E ra _ _ h g).val rfl)) rfl
    · cases h
  | .comp re tg k it cs own, X, M, c, t, e, h, g => by
    unfold okE at h
    split at h
    · rename_i elt tge iter ifs as scope pp
      simp only [Bool.and_eq_true, Bool.not_eq_true', decide_eq_true_eq, List.all_eq_true] at h
      obtain ⟨⟨⟨⟨⟨⟨⟨⟨⟨h0, rfl⟩, ho⟩, hb⟩, hsub⟩, hg⟩, hi⟩, hc⟩, he⟩, hs⟩ := h
      refine ⟨fun z => ?_, fun z => (by rw [h0] at z; cases z), fun z => (by rw [h0] at z; cases z)⟩
      have key := e_comp (pos := pp) (X := X) (M := M) (re := re) (t := tg) (own := ownOf c.N own) g.calm g.nd (sound_I it k _ _ hi g) (by rw [g.N, g.sc]; exact blkOk_by hb) (by rw [ho]; exact hsub)
        (fun s H C cl fp => (sound_G tg _ hg (g.block s H _ cl C fp)).1) (fun s H C cl fp => sound_C cs _ hc (g.block s H _ cl C fp)) (fun s H C cl fp => (sound_E re _ _ he (g.block s H _ cl C fp)).val rfl) hs
      rw [ho] at key
      exact key
    · cases h
theorem sound_A : ∀ (rs : CEs) {X : Cx} {M : Mean} {c : Cc} (es : List Expr), okA c rs es = true → Good X M xc c → PA X es (rdA (X.K, X.w) M rs) ∧ PA X es (rdR (X.K, X.w) M rs) ∧ es.all notStar = true
  | .nil, X, M, c, es, h, g => by
    unfold okA at h
    rw [List.isEmpty_iff] at h
    subst h
    exact ⟨a_nil, r_nil, rfl⟩
  | .cons r rs, X, M, c, es, h, g => by
    unfold okA at h
    split at h
    · simp only [Bool.and_eq_true] at h
      have a := (sound_E r _ _ h.1.2 g).val rfl
      obtain ⟨h1, h2, h3⟩ := sound_A rs _ h.2 g
      exact ⟨a_cons a h1 h.1.1, r_cons a h2 h.1.1, by rw [List.all_cons, h.1.1, h3]; rfl⟩
    · cases h
theorem sound_P : ∀ (rs : CEs) {X : Cx} {M : Mean} {c : Cc} {pos : Pos} (ks : List (Option Expr)) (vs : List Expr), okP c rs ks vs = true → Good X M xc c → PPs X pos ks vs (trsOf (X.K, X.w) M rs) ∧ evenC rs = true ∧ ks.all (·.isSome) = true ∧ ks.length = vs.length
  | .nil, X, M, c, pos, ks, vs, h, g => by
    unfold okP at h
    rw [Bool.and_eq_true, List.isEmpty_iff, List.isEmpty_iff] at h
    obtain ⟨rfl, rfl⟩ := h
    exact ⟨pps_nil, rfl, rfl, rfl⟩
  | .cons rk .nil, X, M, c, pos, ks, vs, h, g => by
    unfold okP at h
    cases h
  | .cons rk (.cons rv rs), X, M, c, pos, ks, vs, h, g => by
    unfold okP at h
    split at h
    · rename_i e1
      cases e1
      simp only [Bool.and_eq_true] at h
      obtain ⟨h1, h2, h3, h4⟩ := sound_P rs _ _ h.2 g (pos := pos)
      exact ⟨pps_cons ((sound_E rk _ _ h.1.1 g).val rfl) ((sound_E rv _ _ h.1.2 g).val rfl) h1, h2, by rw [List.all_cons, h3]; rfl, by rw [List.length_cons, List.length_cons, h4]⟩
    · cases h
theorem sound_O : ∀ (rs : CEs) {X : Cx} {M : Mean} {c : Cc} (e : Option Expr), okO c rs e = true → Good X M xc c → PO X e (rdO (X.K, X.w) M rs)
  | .nil, X, M, c, e, h, g => by
    unfold okO at h
    rw [Option.isNone_iff_eq_none] at h
    subst h
    exact o_no
  | .cons r .nil, X, M, c, e, h, g => by
    unfold okO at h
    split at h
    · exact o_one ((sound_E r _ _ h g).val rfl)
    · cases h
  | .cons r (.cons _ _), X, M, c, e, h, g => by
    unfold okO at h
    cases h
theorem sound_C : ∀ (rs : CEs) {X : Cx} {M : Mean} {c : Cc} (es : List Expr), okC c rs es = true → Good X M xc c → PTs X es (rdC (X.K, X.w) M rs)
  | .nil, X, M, c, e, h, g => by
    unfold okC at h
    rw [List.isEmpty_iff] at h
    subst h
    exact c_no
  | .cons r .nil, X, M, c, e, h, g => by
    unfold okC at h
    split at h
    · exact c_one ((sound_E r _ _ h g).tst rfl)
    · cases h
  | .cons r (.cons _ _), X, M, c, e, h, g => by
    unfold okC at h
    cases h
theorem sound_Rg : ∀ (rs : CEs) {X : Cx} {M : Mean} {c : Cc} {p pos : Pos} (b : Blt) (x : Str) (es : List Expr), okRg c rs b x es = true → okBl c x = true → Good X M xc c → PE X (.Call (.Name x p) es [] pos) (rdE (X.K, X.w) M (.blt b rs))
  | .nil, X, M, c, p, pos, b, x, es, h, hx, g => by
    unfold okRg at h
    cases h
  | .cons r rs, X, M, c, p, pos, b, x, es, h, hx, g => by
    unfold okRg at h
    split at h
    · simp only [Bool.and_eq_true, decide_eq_true_eq] at h
      obtain ⟨⟨⟨⟨rfl, rfl⟩, h3⟩, h4⟩, h5⟩ := h
      obtain ⟨z1, z2, z3, z4⟩ := g.blt hx
      obtain ⟨y1, y2, y3, y4⟩ := g.blt h3
      exact e_tupRg g.calm z1 z3 y1 y3 ((sound_E r _ _ h4 g).val rfl) h5
    · simp only [Bool.and_eq_true, decide_eq_true_eq] at h
      obtain ⟨⟨⟨⟨rfl, rfl⟩, h3⟩, h4⟩, h5⟩ := h
      obtain ⟨z1, z2, z3, z4⟩ := g.blt hx
      obtain ⟨y1, y2, y3, y4⟩ := g.blt h3
      exact e_listRg g.calm z1 z3 y1 y3 ((sound_E r _ _ h4 g).val rfl) h5
    · cases h
theorem sound_M : ∀ (rs : CEs) {X : Cx} {M : Mean} {c : Cc} {o : Expr} {ro : CE} {apos cpos : Pos} (m : Mth) (nm : Str) (es : List Expr), okM c rs m nm es = true → PE X o (rdE (X.K, X.w) M ro) → isName o = true → (apos.endLine == cpos.line) = true → es.all notStar = true → Good X M xc c →
    PE X (.Call (.Attribute o nm apos) es [] cpos) (rdE (X.K, X.w) M (.mt m ro rs))
  | .nil, X, M, c, o, ro, apos, cpos, m, nm, es, h, ho, h1, h2, h3, g => by
    unfold okM at h
    cases h
  | .cons r .nil, X, M, c, o, ro, apos, cpos, m, nm, es, h, ho, h1, h2, h3, g => by
    unfold okM at h
    split at h
    · rename_i e1
      cases e1
    · cases h
  | .cons r (.cons r2 rs), X, M, c, o, ro, apos, cpos, m, nm, es, h, ho, h1, h2, h3, g => by
    unfold okM at h
    split at h
    · rename_i e1
      cases e1
      simp only [Bool.and_eq_true, decide_eq_true_eq] at h
      obtain ⟨⟨rfl, h4⟩, h5⟩ := h
      simp only [List.all_cons, Bool.and_eq_true] at h3
      exact e_get2 g.hu ho ((sound_E r _ _ h4 g).val rfl) ((sound_E r2 _ _ h5 g).val rfl) h1 h3.1 h3.2.1 h2
    · cases h
theorem sound_I : ∀ (rs : CEs) {X : Cx} {M : Mean} {c : Cc} (k : Ik) (tg e : Expr), okI c k rs tg e = true → Good X M xc c → PI X tg e (rdI (X.K, X.w) M k rs)
  | .nil, X, M, c, k, tg, e, h, g => by
    unfold okI at h
    cases h
  | .cons r rs, X, M, c, k, tg, e, h, g => by
    unfold okI at h
    split at h
    · split at h
      · exact i_seq ((sound_E r _ _ h g).val rfl)
      · cases h
    · split at h
      · exact i_keys ((sound_E r _ _ h g).val rfl)
      · cases h
    · split at h
      · simp only [Bool.and_eq_true, decide_eq_true_eq] at h
        obtain ⟨⟨⟨rfl, h1⟩, h2⟩, h3⟩ := h
        exact i_items ((sound_E r _ _ h1 g).val rfl) h2 h3
      · cases h
    · split at h
      · simp only [Bool.and_eq_true, decide_eq_true_eq] at h
        obtain ⟨⟨⟨rfl, h1⟩, h2⟩, h3⟩ := h
        obtain ⟨y1, y2, y3, y4⟩ := g.blt h1
        exact i_range1 y1 y3 ((sound_E r _ _ h2 g).val rfl) h3
      · simp only [Bool.and_eq_true, decide_eq_true_eq] at h
        obtain ⟨⟨⟨⟨⟨rfl, h1⟩, h2⟩, h3⟩, h4⟩, h5⟩ := h
        obtain ⟨y1, y2, y3, y4⟩ := g.blt h1
        exact i_range2 y1 y3 ((sound_E r _ _ h2 g).val rfl) ((sound_E _ _ _ h4 g).val rfl) h3 h5
      · simp only [Bool.and_eq_true, decide_eq_true_eq] at h
        obtain ⟨⟨⟨⟨⟨⟨⟨rfl, h1⟩, h2⟩, h3⟩, h4⟩, h5⟩, h6⟩, h7⟩ := h
        obtain ⟨y1, y2, y3, y4⟩ := g.blt h1
        exact i_range3 y1 y3 ((sound_E r _ _ h2 g).val rfl) ((sound_E _ _ _ h4 g).val rfl) ((sound_E _ _ _ h6 g).val rfl) h3 h5 h7
      · cases h
    · cases h
end
end
end Pe
end

section
set_option maxRecDepth 100000
set_option maxHeartbeats 4000000
/-! Pe17: the checker for statements. -/
namespace Pe
open PySem PySem.Spec PyProof.Rows L2

def notTup : Expr → Bool
  | .Tuple .. => false
  | _ => true
def isTup : Expr → Bool
  | .Tuple .. => true
  | _ => false
theorem swap_tup {tg : Expr} (h : isTup tg = true) (a : Expr) (l : Nat) (env : Env) : swapsWithSole [tg] a l env = pure false := by
  cases tg <;> first | (cases a <;> rfl) | cases h
theorem stores_none {a : Expr} (h : notTup a = true) (tg : Expr) (env : Env) : swappedStores [tg] a env = pure none := by
  cases a <;> first | (cases tg <;> rfl) | cases h
theorem swapped_ok {env : Env} {x y : Str} {px py pt pt2 : Pos} {kt k2 : Nat} {a b : Expr} (hk : env.scope.kind = .function) (hx : env.scope.names.lookup x = some .local) (hy : env.scope.names.lookup y = some .local) (hl : (py.line == px.line) = true) (hne : x ≠ y)
    (na : notStar a = true) (nb : notStar b = true) (hf : ([a, b].all (foldedForSure 8)) = false) (hc : ([a, b].all (constantsAlone 8)) = false) : swappedStores [.Tuple [.Name x px, .Name y py] kt pt] (.Tuple [a, b] k2 pt2) env = pure (some [x, y]) := by
  have hbk : env.blockKind = .function := by
    unfold Env.blockKind
    rw [hk]
    rfl
  have sa : ∀ (e : Expr), notStar e = true → (match e with | .Starred .. => true | _ => false) = false := fun e h => by
    cases e <;> first | rfl | cases h
  have kx : (env.kindOf x == some NameKind.local) = true := by
    unfold Env.kindOf
    rw [hx]
    rfl
  have ky : (env.kindOf y == some NameKind.local) = true := by
    unfold Env.kindOf
    rw [hy]
    rfl
  have hh : (!([Expr.Name x px, Expr.Name y py].length == 2 || [Expr.Name x px, Expr.Name y py].length == 3) || [a, b].length != [Expr.Name x px, Expr.Name y py].length || env.blockKind != .function) = false := by
    rw [hbk]
    rfl
  have hs : ([a, b].any fun | .Starred .. => true | _ => false) = false := by
    simp only [List.any_cons, List.any_nil, Bool.or_false, Bool.or_eq_false_iff]
    exact ⟨sa a na, sa b nb⟩
  have hn : ([Expr.Name x px, Expr.Name y py].filterMap fun
    | .Name id pos => if env.kindOf id == some .local && pos.line == ((List.head? [Expr.Name x px, Expr.Name y py]).map (·.pos.line)).getD 0 then some id else none
    | _ => none) = [x, y] := by
    show ([Expr.Name x px, Expr.Name y py].filterMap fun
      | .Name id pos => if env.kindOf id == some .local && pos.line == px.line then some id else none
      | _ => none) = [x, y]
    rw [List.filterMap_cons, List.filterMap_cons]
    simp only [kx, ky, hl, beq_self_eq_true, Bool.and_self, if_true, List.filterMap_nil]
  have he : ([x, y].length != [Expr.Name x px, Expr.Name y py].length || [x, y].eraseDups.length != [x, y].length) = false := by
    have z : [x, y].eraseDups = [x, y] := by
      rw [List.eraseDups_cons]
      have q : (y == x) = false := beq_eq_false_iff_ne.mpr (Ne.symm hne)
      simp [q, List.eraseDups_cons]
    rw [z]
    rfl
  unfold swappedStores
  simp only []
  refine (if_neg fun z => Bool.false_ne_true (hh.symm.trans z)).trans ?_
  refine (if_neg fun z => Bool.false_ne_true (hs.symm.trans z)).trans ?_
  have fin : ∀ (l : List Str), l = [x, y] → (if (l.length != [Expr.Name x px, Expr.Name y py].length || l.eraseDups.length != l.length) = true then (pure none : Sem (Option (List Str))) else if [a, b].all (foldedForSure 8) = true then pure none else
      if [a, b].all (constantsAlone 8) = true then (do unsupported "assign.tuple-of-constant-expressions:order-of-the-stores"; pure (some l)) else pure (some l)) = pure (some [x, y]) := fun l e => by
    subst e
    rw [he, hf, hc]
    rfl
  exact fin _ hn
end Pe
end

section
set_option maxRecDepth 100000
set_option maxHeartbeats 4000000
/-! Pe18: the checker for statements is sound. -/
namespace Pe
open PySem PySem.Spec PyProof.Rows L2

def okIx (c : Cc) (i : Nat) (x : Str) : Bool := decide (c.N[i]? = some x) && locB c x && plainName x
def isLocal (c : Cc) (x : Str) : Bool := decide (c.sc.names.lookup x = some .local)
/-- y = [..]: the list is made into y -/
def intoOk (c : Cc) (y : Str) (py : Pos) : Expr → Bool
  | .ListComp _ _ scope p => isLocal c y && (py.line == p.line) && !(scope.names.any fun (n, k) => n == y && (k == .local || k == .cell))
  | _ => false
mutual
def okS (c : Cc) : CS → Stmt → Bool
  | .asg i r, st => match st with
    | .Assign [.Name x px] a _ => okIx c i x && okE c r false a && (notComp a || (match r with
      | .comp .. => intoOk c x px a
      | _ => false))
    | _ => false
  | .unp t r, st => match st with
    | .Assign [tg] a _ => okG c t tg && isTup tg && notTup a && okE c r false a
    | _ => false
  | .par i j ra rb, st => match st with
    | .Assign [.Tuple [.Name x px, .Name y py] _ _] (.Tuple [a, b] _ _) _ => decide (c.N[i]? = some x) && decide (c.N[j]? = some y) && decide (i ≠ j) && isLocal c x && isLocal c y && decide (x ≠ y) && (py.line == px.line) && okE c ra false a && okE c rb false b && notStar a && notStar b &&
        !([a, b].all (foldedForSure 8)) && !([a, b].all (constantsAlone 8))
    | _ => false
  | .aug i o r, st => match st with
    | .AugAssign (.Name x _) op a _ => okIx c i x && decide (op = o.op) && (ipOf o).isSome && okE c r false a
    | _ => false
  | .put i ri r, st => match st with
    | .Assign [.Subscript (.Name x _) b _] a _ => okName c i x && okE c ri false b && okE c r false a && notSlice b && notComp a
    | _ => false
  | .augx i ri o r, st => match st with
    | .AugAssign (.Subscript (.Name x _) b _) op a _ => okName c i x && decide (op = o.op) && (ipOf o).isSome && okE c ri false b && okE c r false a && notSlice b
    | _ => false
  | .append i r, st => match st with
    | .Expr (.Call (.Attribute (.Name x _) nm apos) [a] [] cpos) _ => decide (nm = ("append" : Str)) && okName c i x && okE c r false a && notStar a && (apos.endLine == cpos.line)
    | _ => false
  | .extend i r, st => match st with
    | .Expr (.Call (.Attribute (.Name x _) nm apos) [a] [] cpos) _ => decide (nm = ("extend" : Str)) && okName c i x && okE c r false a && notStar a && (apos.endLine == cpos.line)
    | _ => false
  | .pop i, st => match st with
    | .Expr (.Call (.Attribute (.Name x _) nm apos) [] [] cpos) _ => decide (nm = ("pop" : Str)) && okName c i x && (apos.endLine == cpos.line)
    | _ => false
  | .asgPop j i, st => match st with
    | .Assign [.Name y _] (.Call (.Attribute (.Name x _) nm apos) [] [] cpos) _ => decide (nm = ("pop" : Str)) && okName c i x && (apos.endLine == cpos.line) && okIx c j y
    | _ => false
  | .unpPop t i, st => match st with
    | .Assign [tg] (.Call (.Attribute (.Name x _) nm apos) [] [] cpos) _ => decide (nm = ("pop" : Str)) && okName c i x && (apos.endLine == cpos.line) && okG c t tg && isTup tg
    | _ => false
  | .ret r, st => match st with
    | .Return (some a) _ => okE c r false a
    | _ => false
  | .ite rt ra rb, st => match st with
    | .If t a b _ => okE c rt true t && okB c ra a && okB c rb b
    | _ => false
  | .whl rt rb, st => match st with
    | .While t b [] _ => okE c rt true t && okB c rb b
    | _ => false
  | .for_ tg k it rb, st => match st with
    | .For tge iter b [] _ => okG c tg tge && okI c k it tge iter && okB c rb b && notSet iter
    | _ => false
  | .brk, st => match st with
    | .Break _ => true
    | _ => false
  | .cnt, st => match st with
    | .Continue _ => true
    | _ => false
  | .pass, st => match st with
    | .Pass _ => true
    | .Expr (.Constant (.str _) _ _) _ => true
    | _ => false
  | .raise n, st => match st with
    | .Raise (some (.Call (.Name x _) [.Constant (.str _) _ _] [] _)) none _ => decide (c.xs n = some x) && okGl c x
    | _ => false
def okB (c : Cc) : CSs → List Stmt → Bool
  | .nil, sts => sts.isEmpty
  | .cons r rs, sts => match sts with
    | st :: sts => okS c r st && okB c rs sts
    | [] => false
end

/-- what a raise needs of a class -/
def ExcN (X : Cx) (C : Addr) (x : Str) : Prop := ∀ (m : Str) (j : Nat) (p p2 pos : Pos), PMk X (.Call (.Name x p) [.Constant (.str m) j p2] [] pos) (fun _ H Q => Q (.ref C) none H)
structure GoodS (X : Cx) (M : Mean) (xc : Nat → Addr) (c : Cc) : Prop where
  g : Good X M xc c
  kind : X.env.scope.kind = .function
  nb : c.blk = false
  pass : PassesOwn (model X.prog X.w) X.A X.env X.xe
  tk : ∃ W, Takes X W ∧ ∀ n H σ, M.xE n H → W (.ref (xc n)) none σ H
  exc : ∀ n x, c.xs n = some x → ExcN X (xc n) x
section
variable {xc : Nat → Addr} {X : Cx} {M : Mean} {c : Cc}
theorem GoodS.ix (g : GoodS X M xc c) {i : Nat} {x : Str} (h : okIx c i x = true) : X.N[i]? = some x ∧ Loc X.env.scope x ∧ (X.fn x = true ∨ X.env.scope.names.lookup x = some .local) := by
  unfold okIx at h
  simp only [Bool.and_eq_true, decide_eq_true_eq] at h
  obtain ⟨z1, z2⟩ := g.g.store h.1.2
  exact ⟨by rw [g.g.N]; exact h.1.1, z1, z2⟩
theorem GoodS.local (g : GoodS X M xc c) {x : Str} (h : isLocal c x = true) : X.env.scope.names.lookup x = some .local := by
  unfold isLocal at h
  rw [decide_eq_true_eq] at h
  rw [g.g.sc]
  exact h
theorem ip_some {o : Bop} (h : (ipOf o).isSome = true) : ∃ f, ipOf o = some f := Option.isSome_iff_exists.mp h
theorem into_sound {re : CE} {tg : Tgt} {k : Ik} {it cs : CEs} {own : List Nat} {i : Nat} {y : Str} {py pos : Pos} {a : Expr} (g : GoodS X M xc c) (hi : X.N[i]? = some y) (h : okE c (.comp re tg k it cs own) false a = true) (h2 : intoOk c y py a = true) :
    PS X (.Assign [.Name y py] a pos) (rdSt (X.K, X.w) M (.asg i (.comp re tg k it cs own))) := by
  unfold okE at h
  split at h
  · rename_i elt tge iter ifs as scope pp
    simp only [Bool.and_eq_true, Bool.not_eq_true', decide_eq_true_eq, List.all_eq_true] at h
    obtain ⟨⟨⟨⟨⟨⟨⟨⟨⟨h0, rfl⟩, ho⟩, hb⟩, hsub⟩, hg⟩, hi'⟩, hc⟩, he⟩, hs⟩ := h
    unfold intoOk at h2
    simp only [Bool.and_eq_true, Bool.not_eq_true'] at h2
    obtain ⟨⟨h3, h4⟩, h5⟩ := h2
    have key := s_asgC (X := X) (M := M) (pos := pos) (pos' := py) (lp := pp) (re := re) (t := tg) (own := ownOf c.N own) g.g.calm g.g.nd hi (g.local h3) (sw_true g.kind (g.local h3) h4 h5) (sound_I it k _ _ hi' g.g) (by rw [g.g.N, g.g.sc]; exact blkOk_by hb) (by rw [ho]; exact hsub)
      (fun s H C cl fp => (sound_G (xc := xc) tg _ hg (g.g.block s H _ cl C fp)).1) (fun s H C cl fp => sound_C (xc := xc) cs _ hc (g.g.block s H _ cl C fp)) (fun s H C cl fp => (sound_E (xc := xc) re _ _ he (g.g.block s H _ cl C fp)).val rfl) hs
    rw [ho] at key
    exact key
  · cases h
end
section
variable {xc : Nat → Addr}
mutual
theorem sound_S : ∀ (r : CS) {X : Cx} {M : Mean} {c : Cc} (st : Stmt), okS c r st = true → GoodS X M xc c → PS X st (rdSt (X.K, X.w) M r)
  | .asg i r, X, M, c, st, h, g => by
    unfold okS at h
    split at h
    · rename_i x px a pos
      simp only [Bool.and_eq_true, Bool.or_eq_true] at h
      obtain ⟨⟨h1, h2⟩, h3⟩ := h
      obtain ⟨z1, z2, z3⟩ := g.ix h1
      rcases h3 with h3 | h3
      · exact s_asg g.g.nd z1 z2 ((sound_E r _ _ h2 g.g).val rfl) (no_swap h3 _ _ _) z3
      · split at h3
        · exact into_sound g z1 h2 h3
        · cases h3
    · cases h
  | .unp t r, X, M, c, st, h, g => by
    unfold okS at h
    split at h
    · simp only [Bool.and_eq_true] at h
      obtain ⟨⟨⟨h1, h2⟩, h3⟩, h4⟩ := h
      obtain ⟨z1, z2⟩ := sound_G (xc := xc) t _ h1 g.g
      exact s_unp z1 ((sound_E r _ _ h4 g.g).val rfl) (swap_tup h2 _ _ _) (stores_none h3 _ _) z2
    · cases h
  | .par i j ra rb, X, M, c, st, h, g => by
    unfold okS at h
    split at h
    · simp only [Bool.and_eq_true, Bool.not_eq_true', decide_eq_true_eq] at h
      obtain ⟨⟨⟨⟨⟨⟨⟨⟨⟨⟨⟨⟨h1, h2⟩, h3⟩, h4⟩, h5⟩, h6⟩, h7⟩, h8⟩, h9⟩, h10⟩, h11⟩, h12⟩, h13⟩ := h
      exact s_par g.g.calm g.g.nd (by rw [g.g.N]; exact h1) (by rw [g.g.N]; exact h2) h3 (g.local h4) (g.local h5) ((sound_E ra _ _ h8 g.g).val rfl) ((sound_E rb _ _ h9 g.g).val rfl) h10 h11
        (swapped_ok g.kind (g.local h4) (g.local h5) h7 h6 h10 h11 h12 h13)
    · cases h
  | .aug i o r, X, M, c, st, h, g => by
    unfold okS at h
    split at h
    · simp only [Bool.and_eq_true, decide_eq_true_eq] at h
      obtain ⟨⟨⟨h1, rfl⟩, h3⟩, h4⟩ := h
      obtain ⟨z1, z2, z3⟩ := g.ix h1
      obtain ⟨f, hf⟩ := ip_some h3
      exact s_aug hf g.g.nd z1 z2 ((sound_E r _ _ h4 g.g).val rfl) z3
    · cases h
  | .put i ri r, X, M, c, st, h, g => by
    unfold okS at h
    split at h
    · simp only [Bool.and_eq_true] at h
      obtain ⟨⟨⟨⟨h1, h2⟩, h3⟩, h4⟩, h5⟩ := h
      obtain ⟨z1, z2, z3, z4⟩ := g.g.name h1
      exact s_put g.g.hu z1 z2 z3 z4 ((sound_E ri _ _ h2 g.g).val rfl) ((sound_E r _ _ h3 g.g).val rfl) h4 h5
    · cases h
  | .augx i ri o r, X, M, c, st, h, g => by
    unfold okS at h
    split at h
    · simp only [Bool.and_eq_true, decide_eq_true_eq] at h
      obtain ⟨⟨⟨⟨⟨h1, rfl⟩, h3⟩, h4⟩, h5⟩, h6⟩ := h
      obtain ⟨z1, z2, z3, z4⟩ := g.g.name h1
      obtain ⟨f, hf⟩ := ip_some h3
      exact s_augx hf g.g.hu z1 z2 z3 z4 ((sound_E ri _ _ h4 g.g).val rfl) ((sound_E r _ _ h5 g.g).val rfl) h6
    · cases h
  | .append i r, X, M, c, st, h, g => by
    unfold okS at h
    split at h
    · simp only [Bool.and_eq_true, decide_eq_true_eq] at h
      obtain ⟨⟨⟨⟨rfl, h1⟩, h2⟩, h3⟩, h4⟩ := h
      obtain ⟨z1, z2, z3, z4⟩ := g.g.name h1
      exact s_append z1 z2 z3 z4 ((sound_E r _ _ h2 g.g).val rfl) h3 h4
    · cases h
  | .extend i r, X, M, c, st, h, g => by
    unfold okS at h
    split at h
    · simp only [Bool.and_eq_true, decide_eq_true_eq] at h
      obtain ⟨⟨⟨⟨rfl, h1⟩, h2⟩, h3⟩, h4⟩ := h
      obtain ⟨z1, z2, z3, z4⟩ := g.g.name h1
      exact s_extend z1 z2 z3 z4 ((sound_E r _ _ h2 g.g).val rfl) h3 h4
    · cases h
  | .pop i, X, M, c, st, h, g => by
    unfold okS at h
    split at h
    · simp only [Bool.and_eq_true, decide_eq_true_eq] at h
      obtain ⟨⟨rfl, h1⟩, h2⟩ := h
      obtain ⟨z1, z2, z3, z4⟩ := g.g.name h1
      exact s_pop z1 z2 z3 z4 h2
    · cases h
  | .asgPop j i, X, M, c, st, h, g => by
    unfold okS at h
    split at h
    · simp only [Bool.and_eq_true, decide_eq_true_eq] at h
      obtain ⟨⟨⟨rfl, h1⟩, h2⟩, h3⟩ := h
      obtain ⟨z1, z2, z3, z4⟩ := g.g.name h1
      obtain ⟨y1, y2, y3⟩ := g.ix h3
      exact s_asgPop z1 z2 z3 z4 h2 g.g.nd y1 y2 y3
    · cases h
  | .unpPop t i, X, M, c, st, h, g => by
    unfold okS at h
    split at h
    · simp only [Bool.and_eq_true, decide_eq_true_eq] at h
      obtain ⟨⟨⟨⟨rfl, h1⟩, h2⟩, h3⟩, h4⟩ := h
      obtain ⟨z1, z2, z3, z4⟩ := g.g.name h1
      obtain ⟨y1, y2⟩ := sound_G (xc := xc) t _ h3 g.g
      exact s_unpPop z1 z2 z3 z4 h2 y1 y2 (swap_tup h4 _ _ _) (stores_none rfl _ _)
    · cases h
  | .ret r, X, M, c, st, h, g => by
    unfold okS at h
    split at h
    · exact s_ret ((sound_E r _ _ h g.g).val rfl)
    · cases h
  | .ite rt ra rb, X, M, c, st, h, g => by
    unfold okS at h
    split at h
    · simp only [Bool.and_eq_true] at h
      exact s_ite ((sound_E rt _ _ h.1.1 g.g).tst rfl) (sound_B ra _ h.1.2 g) (sound_B rb _ h.2 g)
    · cases h
  | .whl rt rb, X, M, c, st, h, g => by
    unfold okS at h
    split at h
    · simp only [Bool.and_eq_true] at h
      exact s_whl g.pass ((sound_E rt _ _ h.1 g.g).tst rfl) (sound_B rb _ h.2 g)
    · cases h
  | .for_ tg k it rb, X, M, c, st, h, g => by
    unfold okS at h
    split at h
    · simp only [Bool.and_eq_true] at h
      obtain ⟨⟨⟨h1, h2⟩, h3⟩, h4⟩ := h
      exact s_for g.pass g.g.calm (sound_I it k _ _ h2 g.g) (sound_G (xc := xc) tg _ h1 g.g).1 (sound_B rb _ h3 g) h4
    · cases h
  | .brk, X, M, c, st, h, g => by
    unfold okS at h
    split at h
    · exact s_brk
    · cases h
  | .cnt, X, M, c, st, h, g => by
    unfold okS at h
    split at h
    · exact s_cnt
    · cases h
  | .pass, X, M, c, st, h, g => by
    unfold okS at h
    split at h
    · exact s_pass
    · exact s_doc
    · cases h
  | .raise n, X, M, c, st, h, g => by
    unfold okS at h
    split at h
    · simp only [Bool.and_eq_true, decide_eq_true_eq] at h
      obtain ⟨W, tk, hW⟩ := g.tk
      exact s_raise g.g.calm tk (hW n) (g.exc n _ h.1 _ _ _ _ _)
    · cases h
theorem sound_B : ∀ (rs : CSs) {X : Cx} {M : Mean} {c : Cc} (sts : List Stmt), okB c rs sts = true → GoodS X M xc c → PSs X sts (rdB (X.K, X.w) M rs)
  | .nil, X, M, c, sts, h, g => by
    unfold okB at h
    rw [List.isEmpty_iff] at h
    subst h
    exact s_nil
  | .cons r rs, X, M, c, sts, h, g => by
    unfold okB at h
    split at h
    · rw [Bool.and_eq_true] at h
      exact s_cons (sound_S r _ h.1 g) (sound_B rs _ h.2 g)
    · cases h
end
end
end Pe
end

section
set_option maxRecDepth 100000
set_option maxHeartbeats 4000000
/-! Pe19: defs by the table. -/
namespace Pe
open PySem PySem.Spec PyProof.Rows L2

/-- nothing known otherwise -/
abbrev noM : Nat → Nat → List D → Res → Prop := fun _ _ _ _ => False
/-- a def of the program and its datum -/
structure Dt where
  x : Str
  params : Arguments
  body : List Stmt
  scope : Scope
  ps : List Str
  N : List Str
  fn : Fn
/-- all defs, constants, classes by number -/
structure Tb where
  df : Nat → Option Dt
  gs : Nat → Option Str
  xs : Nat → Option Str
  bl : Str → Bool
def Tb.fs (t : Tb) (f : Nat) : Option Str := (t.df f).map (·.x)
def Tb.T (t : Tb) (f : Nat) : Option Fn := (t.df f).map (·.fn)
def Tb.cc (t : Tb) (d : Dt) : Cc := ⟨d.N, d.scope, t.fs, t.gs, t.xs, t.bl, false⟩
/-- what a kernel can see of a def -/
structure DtOk (t : Tb) (d : Dt) : Prop where
  sc : FnScope d.N d.ps d.scope
  np : d.fn.np = d.ps.length
  ns : d.fn.ns = d.N.length
  ok : okB (t.cc d) d.fn.body d.body = true
/-- how it stands behind the top -/
structure World1 (P : Program) (w : World) (K : PySem.W.Frag) (mg : Str → Option Value) (base : Heap) (t : Tb) (G : Nat → D) (xc : Nat → Addr) : Prop where
  dt : ∀ f d, t.df f = some d → DtOk t d
  fn : ∀ f d, t.df f = some d → ∃ fa fd, FunD K d.x d.x d.params d.body d.scope [] [] fa fd ∧ mg d.x = some (.ref fa) ∧ Binds K fd d.ps []
  gl : ∀ n x, t.gs n = some x → ∃ u v, mg x = some u ∧ RelV v u ∧ ∀ F, Rep (K, w) F v (G n)
  bl : ∀ x, t.bl x = true → mg x = none
  exc : ∀ n x, t.xs n = some x → ∀ X : Cx, X.K = K → X.mg = mg → ExcN X (xc n) x

theorem cx_no {P : Program} {w : World} {outer : List Env} {H : Hp} {s : Shared} {e : Value} {s' : Shared} (h : L2.CX P w outer H s (fun _ _ _ => False) e s') : False := by
  obtain ⟨_, _, _, _, _, _, _, _, _, _, _, _, z⟩ := h
  exact z.elim
section
variable {P : Program} {w : World} {K : PySem.W.Frag} {mg : Str → Option Value} {base : Heap} {t : Tb} {G : Nat → D} {xc : Nat → Addr}
theorem calls_len (W : World1 P w K mg base t G xc) : ∀ n f d ds r, t.df f = some d → Calls G t.T noM n f ds r → ds.length = d.ps.length
  | 0, _, _, _, _, _, h => h.elim
  | n + 1, f, d, ds, r, e, h => by
    rcases h with h | ⟨fn, hf, h⟩
    · exact h.elim
    · unfold Tb.T at hf
      rw [e] at hf
      cases hf
      rw [← (W.dt f d e).np]
      exact h.1
theorem rel_start {ds : List D} {vs : List V} {F H : Hp} {fn : Fn} {N : List Str} (hs : Sub F H) (r : RepL (K, w) F vs ds) (hN : fn.ns = N.length) (hl : ds.length ≤ N.length) : Rel (K, w) ⟨H, F⟩ F H (startE fn ds) (L2.start N vs) where
  fin := Fin.start H F hs
  len := by
    unfold startE L2.start
    rw [List.length_append, List.length_append, List.length_map, List.length_map, List.length_replicate, List.length_replicate, r.length, hN]
  im := fun i d e => by
    unfold startE at e
    unfold L2.start
    rcases Nat.lt_or_ge i ds.length with h | h
    · rw [List.getElem?_append_left (by rw [List.length_map]; exact h), List.getElem?_map] at e
      rw [List.getElem?_append_left (by rw [List.length_map, r.length]; exact h), List.getElem?_map]
      obtain ⟨d', e1, e2⟩ := Option.map_eq_some_iff.mp e
      cases e2
      obtain ⟨v, z1, z2⟩ := r.get e1
      exact ⟨v, by rw [z1]; rfl, z2⟩
    · rw [List.getElem?_append_right (by rw [List.length_map]; exact h), List.getElem?_replicate] at e
      split at e <;> cases e
  own := fun i d e => by
    unfold startE at e
    rcases Nat.lt_or_ge i ds.length with h | h
    · rw [List.getElem?_append_left (by rw [List.length_map]; exact h), List.getElem?_map] at e
      obtain ⟨d', e1, e2⟩ := Option.map_eq_some_iff.mp e
      cases e2
    · rw [List.getElem?_append_right (by rw [List.length_map]; exact h), List.getElem?_replicate] at e
      split at e <;> cases e
  inj := fun i j d e p h => by
    unfold startE at h
    rcases Nat.lt_or_ge i ds.length with h' | h'
    · rw [List.getElem?_append_left (by rw [List.length_map]; exact h'), List.getElem?_map] at h
      obtain ⟨d', e1, e2⟩ := Option.map_eq_some_iff.mp h
      cases e2
    · rw [List.getElem?_append_right (by rw [List.length_map]; exact h'), List.getElem?_replicate] at h
      split at h <;> cases h
/-- THE TABLE: every def keeps the calls' relation, to every depth -/
theorem table (W : World1 P w K mg base t G xc) : ∀ (n : Nat) (f : Nat) (d : Dt), t.df f = some d → ∃ fa fd, FnOk P w K mg base (L2.CX P w) n fa fd d.ps (spP (K, w) xc d.ps.length (Calls G t.T noM n f)) ∧ mg d.x = some (.ref fa) ∧ PySem.W.keepIn K (.ref fa) = true ∧ Binds K fd d.ps []
  | 0, f, d, e => by
    obtain ⟨fa, fd, F, hm, hb⟩ := W.fn f d e
    exact ⟨fa, fd, ⟨fun vs H Q E h => h.1, fun A outer s H args us vs Q E hr e0 hbb hv h => by
      obtain ⟨_, _, _, _, _, _, z, _⟩ := h
      exact z.elim⟩, hm, F.kp, hb⟩
  | n + 1, f, d, e => by
    obtain ⟨fa, fd, F, hm, hb⟩ := W.fn f d e
    have dk := W.dt f d e
    have ih := table W n
    refine ⟨fa, fd, F.ok dk.sc (fun vs H Q E h => h.1) (fun cdv A outer s H vs Q E hr h => ?_), hm, F.kp, hb⟩
    obtain ⟨hl, F0, ds, r, hs, rp, hR, post⟩ := h
    rcases hR with hR | ⟨fn, hf, hR⟩
    · exact hR.elim
    unfold Tb.T at hf
    rw [e] at hf
    cases hf
    obtain ⟨hlen, hw⟩ := hR
    let M : Mean := ⟨G, Calls G t.T noM n, fun c H' => E (.ref (xc c)) none H'⟩
    let X : Cx := cxOf (L2.CX P w) P w K mg base d.N d.x d.scope fa cdv A outer s H E
    have tk : Takes X (fun cls d _ H => E cls d H) := takes_of rfl rfl rfl rfl
    have g : Good X M xc (t.cc d) := {
      N := rfl
      nd := dk.sc.nd
      sc := rfl
      calm := rfl
      hu := by
        have := hr.un
        show (A.deeper (envOfC d.x d.scope s.heap.objs.size fa cdv)).units + 65 < cLine
        omega
      fn := fun _ _ => rfl
      gl := W.gl
      bl := W.bl
      fns := fun f' x' e' => by
        have e2 : (t.df f').map (·.x) = some x' := e'
        obtain ⟨d', q1, q2⟩ := Option.map_eq_some_iff.mp e2
        subst q2
        obtain ⟨fa', fd', h1, h2, h3, h4⟩ := ih f' d' q1
        exact ⟨L2.CX P w, n, fa', fd', d'.ps, E, h1, hr, h2, h3, h4, passes_call tk fun _ _ _ _ h => h, fun _ _ h => h, fun ds r h => calls_len W n f' d' ds r q1 h, fun _ _ _ _ _ h => cx_no h⟩ }
    have gs : GoodS X M xc (t.cc d) := {
      g := g
      kind := dk.sc.kind
      nb := rfl
      pass := passes_of rfl
      tk := ⟨_, tk, fun _ _ _ h => h⟩
      exc := fun n x e => W.exc n x e X rfl rfl }
    have rel : Rel (K, w) ⟨H, F0⟩ F0 H (startE d.fn ds) (L2.start d.N vs) := rel_start hs rp dk.ns (by
      have := congrArg List.length dk.sc.pre
      rw [List.length_take] at this
      rw [hlen, dk.np]
      omega)
    refine ⟨rdB (K, w) M d.fn.body, sound_B (xc := xc) d.fn.body d.body dk.ok gs, ⟨H, F0⟩, F0, startE d.fn ds, _, rel, hw, ?_, ?_, ?_, ?_, ?_⟩
    · intro ρ' q F' H' σ' r' _
      subst q
      exact post F' H' .non r'.fin .non
    · intro d' q F' H' v fin rv
      subst q
      exact post F' H' v fin rv
    · exact fun _ q => q.elim
    · exact fun _ q => q.elim
    · intro c q H' sub
      subst q
      exact post H' sub
end
end Pe
end

section
set_option maxRecDepth 100000
set_option maxHeartbeats 4000000
/-! Pe20: the same of a def at a given function object. -/
namespace Pe
open PySem PySem.Spec PyProof.Rows L2
section
variable {P : Program} {w : World} {K : PySem.W.Frag} {mg : Str → Option Value} {base : Heap} {t : Tb} {G : Nat → D} {xc : Nat → Addr}
theorem table1 (W : World1 P w K mg base t G xc) (n f : Nat) (d : Dt) (e : t.df f = some d) {fa : Addr} {fd : FuncData} (F : FunD K d.x d.x d.params d.body d.scope [] [] fa fd) : FnOk P w K mg base (L2.CX P w) (n + 1) fa fd d.ps (spP (K, w) xc d.ps.length (Calls G t.T noM (n + 1) f)) := by
  have dk := W.dt f d e
  have ih := table W n
  refine F.ok dk.sc (fun vs H Q E h => h.1) (fun cdv A outer s H vs Q E hr h => ?_)
  obtain ⟨hl, F0, ds, r, hs, rp, hR, post⟩ := h
  rcases hR with hR | ⟨fn, hf, hR⟩
  · exact hR.elim
  unfold Tb.T at hf
  rw [e] at hf
  cases hf
  obtain ⟨hlen, hw⟩ := hR
  let M : Mean := ⟨G, Calls G t.T noM n, fun c H' => E (.ref (xc c)) none H'⟩
  let X : Cx := cxOf (L2.CX P w) P w K mg base d.N d.x d.scope fa cdv A outer s H E
  have tk : Takes X (fun cls d _ H => E cls d H) := takes_of rfl rfl rfl rfl
  have g : Good X M xc (t.cc d) := {
    N := rfl
    nd := dk.sc.nd
    sc := rfl
    calm := rfl
    hu := by
      have := hr.un
      show (A.deeper (envOfC d.x d.scope s.heap.objs.size fa cdv)).units + 65 < cLine
      omega
    fn := fun _ _ => rfl
    gl := W.gl
    bl := W.bl
    fns := fun f' x' e' => by
      have e2 : (t.df f').map (·.x) = some x' := e'
      obtain ⟨d', q1, q2⟩ := Option.map_eq_some_iff.mp e2
      subst q2
      obtain ⟨fa', fd', h1, h2, h3, h4⟩ := ih f' d' q1
      exact ⟨L2.CX P w, n, fa', fd', d'.ps, E, h1, hr, h2, h3, h4, passes_call tk fun _ _ _ _ h => h, fun _ _ h => h, fun ds r h => calls_len W n f' d' ds r q1 h, fun _ _ _ _ _ h => cx_no h⟩ }
  have gs : GoodS X M xc (t.cc d) := {
    g := g
    kind := dk.sc.kind
    nb := rfl
    pass := passes_of rfl
    tk := ⟨_, tk, fun _ _ _ h => h⟩
    exc := fun n x e => W.exc n x e X rfl rfl }
  have rel : Rel (K, w) ⟨H, F0⟩ F0 H (startE d.fn ds) (L2.start d.N vs) := rel_start hs rp dk.ns (by
    have := congrArg List.length dk.sc.pre
    rw [List.length_take] at this
    rw [hlen, dk.np]
    omega)
  refine ⟨rdB (K, w) M d.fn.body, sound_B (xc := xc) d.fn.body d.body dk.ok gs, ⟨H, F0⟩, F0, startE d.fn ds, _, rel, hw, ?_, ?_, ?_, ?_, ?_⟩
  · intro ρ' q F' H' σ' r' _
    subst q
    exact post F' H' .non r'.fin .non
  · intro d' q F' H' v fin rv
    subst q
    exact post F' H' v fin rv
  · exact fun _ q => q.elim
  · exact fun _ q => q.elim
  · intro c q H' sub
    subst q
    exact post H' sub
end
end Pe
end

section

/-! rules for loops of the small language; the step -/
namespace Pe
open PySem
theorem whl_rule {t : Rho → (Bool → Rho → Prop) → Prop} {b : Rho → PEnds → Prop} {K : PEnds} (I : Nat → Rho → Prop)
    (step : ∀ m ρ (N : Rho → Prop), I m ρ → (∀ m' ρ', m' < m → I m' ρ' → N ρ') → t ρ fun c ρ1 => if c = true then b ρ1 ⟨N, K.rt, K.nx, N, K.ex⟩ else K.nx ρ1) {m : Nat} {ρ : Rho} (h : I m ρ) : ∃ n, whlN t b K n ρ := by
  have key : ∀ n m ρ, m < n → I m ρ → whlN t b K n ρ := by
    intro n
    induction n with
    | zero => intro m ρ h; omega
    | succ n ih =>
      intro m ρ hm hI
      exact step m ρ _ hI fun m' ρ' hm' hI' => ih m' ρ' (by omega) hI'
  exact ⟨m + 1, key _ m ρ (Nat.lt_succ_self m) h⟩
theorem for_rule {g : D → Rho → (Rho → Prop) → Prop} {b : Rho → PEnds → Prop} {K : PEnds} {xs : List D} (I : Nat → Rho → Prop)
    (step : ∀ i x ρ (N : Rho → Prop), xs[i]? = some x → I i ρ → (∀ ρ', I (i + 1) ρ' → N ρ') → g x ρ fun ρ1 => b ρ1 ⟨N, K.rt, K.nx, N, K.ex⟩) (fin : ∀ ρ, I xs.length ρ → K.nx ρ) {ρ : Rho} (h : I 0 ρ) : forN g b K xs ρ := by
  have key : ∀ (l : List D) (i : Nat) (ρ : Rho), xs.drop i = l → i ≤ xs.length → I i ρ → forN g b K l ρ := by
    intro l
    induction l with
    | nil =>
      intro i ρ hd hi hI
      have : xs.length ≤ i := List.drop_eq_nil_iff.mp hd
      have e : i = xs.length := by omega
      subst e
      exact fin ρ hI
    | cons x l ih =>
      intro i ρ hd hi hI
      have hx : xs[i]? = some x := by
        have z := congrArg (·[0]?) hd
        simpa using z
      have hr : xs.drop (i + 1) = l := by
        rw [← List.drop_drop, hd]
        rfl
      exact step i x ρ _ hx hI fun ρ' h' => ih (i + 1) ρ' hr (List.getElem?_eq_some_iff.mp hx).1 h'
  exact key xs 0 ρ rfl (Nat.zero_le _) h
theorem comp_rule {turn : D → Rho → (Option D → Rho → Prop) → Prop} {Q : List D → Rho → Prop} {xs : List D} (I : Nat → List D → Rho → Prop)
    (step : ∀ i x acc ρ (N : List D → Rho → Prop), xs[i]? = some x → I i acc ρ → (∀ acc' ρ', I (i + 1) acc' ρ' → N acc' ρ') → turn x ρ fun r ρ' => match r with
      | some d => acc.length < sizeLine ∧ N (acc ++ [d]) ρ'
      | none => N acc ρ') (fin : ∀ acc ρ, I xs.length acc ρ → Q acc ρ) {ρ : Rho} (h : I 0 [] ρ) : compR turn xs [] ρ Q := by
  have key : ∀ (l : List D) (i : Nat) (acc : List D) (ρ : Rho), xs.drop i = l → i ≤ xs.length → I i acc ρ → compR turn l acc ρ Q := by
    intro l
    induction l with
    | nil =>
      intro i acc ρ hd hi hI
      have : xs.length ≤ i := List.drop_eq_nil_iff.mp hd
      have e : i = xs.length := by omega
      subst e
      exact fin acc ρ hI
    | cons x l ih =>
      intro i acc ρ hd hi hI
      have hx : xs[i]? = some x := by
        have z := congrArg (·[0]?) hd
        simpa using z
      have hr : xs.drop (i + 1) = l := by
        rw [← List.drop_drop, hd]
        rfl
      exact step i x acc ρ (fun acc' ρ' => compR turn l acc' ρ' Q) hx hI fun acc' ρ' h' => ih (i + 1) acc' ρ' hr (List.getElem?_eq_some_iff.mp hx).1 h'
  exact key xs 0 [] ρ rfl (Nat.zero_le _) h
theorem rgD_len (n : Nat) (lo : Int) : (rgD n lo).length = n := by
  unfold rgD
  rw [List.length_map, List.length_range]
theorem rgD_at {n i : Nat} {lo : Int} {d : D} (h : (rgD n lo)[i]? = some d) : i < n ∧ d = .int (lo + i) := by
  have hi : i < n := by
    have z := (List.getElem?_eq_some_iff.mp h).1
    rw [rgD_len] at z
    exact z
  refine ⟨hi, ?_⟩
  unfold rgD at h
  rw [List.getElem?_map, List.getElem?_range hi] at h
  cases h
  rfl
theorem ifT {c : Bool} (h : c = true) {A B : Prop} (a : A) : if c = true then A else B := by
  rw [if_pos h]
  exact a
theorem ifF {c : Bool} (h : c = false) {A B : Prop} (a : B) : if c = true then A else B := by
  rw [if_neg (by rw [h]; decide)]
  exact a
/- one step of the reading, to the next choice -/
end Pe
end

section
set_option maxRecDepth 100000
set_option maxHeartbeats 0
namespace T92
open PySem PySem.Spec PyProof.Rows L2 Pe
def top (i : Nat) : Stmt := PySem.Challenge.pw_planestacks_k92_whole_ties_of_products.main.body.getD i (.Pass ⟨0, 0, 0, 0⟩)
def mk (x : Str) (i : Nat) (ps N : List Str) (fn : Fn) : Dt := ⟨x, defArgs (top i), defBody (top i), defScope (top i), ps, N, fn⟩
/-- trimmed(parts) : 0=parts 1=end -/
def fn0 : Fn := ⟨1, 2, (.cons (.asg 1 (.blt .len (.cons (.v 0) .nil))) (.cons (.whl (.band (.cmp .gt (.v 1) (.k (.int 0))) (.cmp .eq (.ix (.v 0) (.bin .sub (.v 1) (.k (.int 1)))) (.k (.int 0)))) (.cons (.aug 1 .sub (.k (.int 1))) .nil)) (.cons (.ret (.blt .tuple (.cons (.sl (.v 0) .nil (.cons (.v 1) .nil)) .nil))) .nil)))⟩
def d0 : Dt := mk "trimmed" 1 ["parts"] ["parts", "end"] fn0
/-- part_at(f, power) : 0=f 1=power -/
def fn1 : Fn := ⟨2, 2, (.cons (.ite (.cmp .lt (.v 1) (.blt .len (.cons (.v 0) .nil))) (.cons (.ret (.ix (.v 0) (.v 1))) .nil) .nil) (.cons (.ret (.k (.int 0))) .nil))⟩
def d1 : Dt := mk "part_at" 2 ["f", "power"] ["f", "power"] fn1
/-- row_plus(f, g) : 0=f 1=g 2=k -/
def fn2 : Fn := ⟨2, 3, (.cons (.ret (.call 0 (.cons (.comp (.bin .add (.call 1 (.cons (.v 0) (.cons (.v 2) .nil))) (.call 1 (.cons (.v 1) (.cons (.v 2) .nil)))) (.nm 2) .range (.cons (.blt .max2 (.cons (.blt .len (.cons (.v 0) .nil)) (.cons (.blt .len (.cons (.v 1) .nil)) .nil))) .nil) .nil [2]) .nil))) .nil)⟩
def d2 : Dt := mk "row_plus" 3 ["f", "g"] ["f", "g", "k"] fn2
/-- row_times(f, g) : 0=f 1=g 2=found 3=i 4=j -/
def fn3 : Fn := ⟨2, 5, (.cons (.asg 2 (.bin .mul (.lst (.cons (.k (.int 0)) .nil)) (.bin .add (.blt .len (.cons (.v 0) .nil)) (.blt .len (.cons (.v 1) .nil))))) (.cons (.for_ (.nm 3) .range (.cons (.blt .len (.cons (.v 0) .nil)) .nil) (.cons (.for_ (.nm 4) .range (.cons (.blt .len (.cons (.v 1) .nil)) .nil) (.cons (.augx 2 (.bin .add (.v 3) (.v 4)) .add (.bin .mul (.ix (.v 0) (.v 3)) (.ix (.v 1) (.v 4)))) .nil)) .nil)) (.cons (.ret (.call 0 (.cons (.v 2) .nil))) .nil)))⟩
def d3 : Dt := mk "row_times" 4 ["f", "g"] ["f", "g", "found", "i", "j"] fn3
/-- cut_off(rows) : 0=rows 1=end -/
def fn4 : Fn := ⟨1, 2, (.cons (.asg 1 (.blt .len (.cons (.v 0) .nil))) (.cons (.whl (.band (.cmp .gt (.v 1) (.k (.int 0))) (.cmp .eq (.ix (.v 0) (.bin .sub (.v 1) (.k (.int 1)))) (.tup .nil))) (.cons (.asg 1 (.bin .sub (.v 1) (.k (.int 1)))) .nil)) (.cons (.ret (.blt .tuple (.cons (.sl (.v 0) .nil (.cons (.v 1) .nil)) .nil))) .nil)))⟩
def d4 : Dt := mk "cut_off" 6 ["rows"] ["rows", "end"] fn4
/-- board_times(f, g) : 0=f 1=g 2=found 3=j 4=k -/
def fn5 : Fn := ⟨2, 5, (.cons (.asg 2 (.comp (.tup .nil) (.nm 4) .range (.cons (.bin .add (.blt .len (.cons (.v 0) .nil)) (.blt .len (.cons (.v 1) .nil))) .nil) .nil [4])) (.cons (.for_ (.nm 3) .range (.cons (.blt .len (.cons (.v 0) .nil)) .nil) (.cons (.for_ (.nm 4) .range (.cons (.blt .len (.cons (.v 1) .nil)) .nil) (.cons (.put 2 (.bin .add (.v 3) (.v 4)) (.call 2 (.cons (.ix (.v 2) (.bin .add (.v 3) (.v 4))) (.cons (.call 3 (.cons (.ix (.v 0) (.v 3)) (.cons (.ix (.v 1) (.v 4)) .nil))) .nil)))) .nil)) .nil)) (.cons (.ret (.call 4 (.cons (.v 2) .nil))) .nil)))⟩
def d5 : Dt := mk "board_times" 7 ["f", "g"] ["f", "g", "found", "j", "k"] fn5
/-- line_of(board, turn, size) : 0=board 1=turn 2=size 3=line -/
def fn6 : Fn := ⟨3, 4, (.cons (.asg 3 (.bin .add (.bin .add (.bin .mul (.lst (.cons (.tup .nil) .nil)) (.v 1)) (.blt .list (.cons (.rv (.v 0)) .nil))) (.bin .mul (.lst (.cons (.tup .nil) .nil)) (.v 2)))) (.cons (.ret (.sl (.v 3) .nil (.cons (.v 2) .nil))) .nil))⟩
def d6 : Dt := mk "line_of" 11 ["board", "turn", "size"] ["board", "turn", "size", "line"] fn6
/-- table_of(f, g, k) : 0=f 1=g 2=k 3=size 4=lines 5=turn -/
def fn7 : Fn := ⟨3, 6, (.cons (.asg 3 (.bin .sub (.bin .sub (.bin .add (.blt .len (.cons (.v 0) .nil)) (.blt .len (.cons (.v 1) .nil))) (.k (.int 2))) (.bin .mul (.k (.int 2)) (.v 2)))) (.cons (.asg 4 (.comp (.call 6 (.cons (.v 0) (.cons (.v 5) (.cons (.v 3) .nil)))) (.nm 5) .range (.cons (.bin .sub (.bin .sub (.blt .len (.cons (.v 1) .nil)) (.k (.int 1))) (.v 2)) .nil) .nil [5])) (.cons (.extend 4 (.comp (.call 6 (.cons (.v 1) (.cons (.v 5) (.cons (.v 3) .nil)))) (.nm 5) .range (.cons (.bin .sub (.bin .sub (.blt .len (.cons (.v 0) .nil)) (.k (.int 1))) (.v 2)) .nil) .nil [5])) (.cons (.ret (.v 4)) .nil))))⟩
def d7 : Dt := mk "table_of" 12 ["f", "g", "k"] ["f", "g", "k", "size", "lines", "turn"] fn7
/-- turned_sign(had, column) : 0=had 1=column 2=other -/
def fn8 : Fn := ⟨2, 3, (.cons (.ite (.cmp .eq (.bin .mod (.blt .len (.cons (.comp (.v 2) (.nm 2) .seq (.cons (.v 0) .nil) (.cons (.cmp .gt (.v 2) (.v 1)) .nil) [2]) .nil)) (.k (.int 2))) (.k (.int 1))) (.cons (.ret (.g 1)) .nil) .nil) (.cons (.ret (.g 0)) .nil))⟩
def d8 : Dt := mk "turned_sign" 13 ["had", "column"] ["had", "column", "other"] fn8
/-- with_line(found, line) : 0=found 1=line 2=more 3=had 4=total 5=column 6=key 7=term -/
def fn9 : Fn := ⟨2, 8, (.cons (.asg 2 (.dct .nil)) (.cons (.for_ (.tp (.cons (.nm 3) (.cons (.nm 4) .nil))) .items (.cons (.v 0) .nil) (.cons (.for_ (.nm 5) .range (.cons (.blt .len (.cons (.v 1) .nil)) .nil) (.cons (.ite (.band (.cmp .nmem (.v 5) (.v 3)) (.cmp .ne (.ix (.v 1) (.v 5)) (.tup .nil))) (.cons (.asg 6 (.blt .tuple (.cons (.blt .sorted (.cons (.bin .add (.v 3) (.tup (.cons (.v 5) .nil))) .nil)) .nil))) (.cons (.asg 7 (.call 3 (.cons (.call 3 (.cons (.v 4) (.cons (.ix (.v 1) (.v 5)) .nil))) (.cons (.call 8 (.cons (.v 3) (.cons (.v 5) .nil))) .nil)))) (.cons (.put 2 (.v 6) (.call 2 (.cons (.mt .get2 (.v 2) (.cons (.v 6) (.cons (.tup .nil) .nil))) (.cons (.v 7) .nil)))) .nil))) .nil) .nil)) .nil)) (.cons (.ret (.v 2)) .nil)))⟩
def d9 : Dt := mk "with_line" 14 ["found", "line"] ["found", "line", "more", "had", "total", "column", "key", "term"] fn9
/-- determinant(table) : 0=table 1=found 2=line -/
def fn10 : Fn := ⟨1, 3, (.cons (.asg 1 (.dct (.cons (.tup .nil) (.cons (.g 0) .nil)))) (.cons (.for_ (.nm 2) .seq (.cons (.v 0) .nil) (.cons (.asg 1 (.call 9 (.cons (.v 1) (.cons (.v 2) .nil)))) .nil)) (.cons (.ret (.mt .get2 (.v 1) (.cons (.blt .tupRg1 (.cons (.blt .len (.cons (.v 0) .nil)) .nil)) (.cons (.tup .nil) .nil)))) .nil)))⟩
def d10 : Dt := mk "determinant" 15 ["table"] ["table", "found", "line"] fn10
/-- tie_of(f, g, k) : 0=f 1=g 2=k -/
def fn11 : Fn := ⟨3, 3, (.cons (.ret (.call 10 (.cons (.call 7 (.cons (.v 0) (.cons (.v 1) (.cons (.v 2) .nil)))) .nil))) .nil)⟩
def d11 : Dt := mk "tie_of" 16 ["f", "g", "k"] ["f", "g", "k"] fn11
/-- _law_cell(_law_script, _law_k) : 0=_law_script 1=_law_k 2=_law_state 3=_law_cell_here -/
def fn12 : Fn := ⟨2, 4, (.cons (.ite (.cmp .lt (.v 1) (.blt .len (.cons (.v 0) .nil))) (.cons (.ret (.ix (.v 0) (.v 1))) .nil) .nil) (.cons (.asg 2 (.bin .mod (.bin .mul (.k (.int 48271)) (.bin .add (.bin .add (.bin .mul (.v 1) (.v 1)) (.bin .mul (.k (.int 7)) (.v 1))) (.k (.int 11)))) (.k (.int 2147483647)))) (.cons (.for_ (.nm 3) .seq (.cons (.sl (.v 0) .nil (.cons (.k (.int 3)) .nil)) .nil) (.cons (.asg 2 (.bin .mod (.bin .add (.bin .mul (.v 2) (.k (.int 69621))) (.v 3)) (.k (.int 2147483647)))) .nil)) (.cons (.ret (.v 2)) .nil))))⟩
def d12 : Dt := mk "_law_cell" 18 ["_law_script", "_law_k"] ["_law_script", "_law_k", "_law_state", "_law_cell_here"] fn12
/-- _law_numbers(_law_cell_here, _law_many) : 0=_law_cell_here 1=_law_many 2=_law_found 3=_law_state 4=_law_digits 5=_law_k -/
def fn13 : Fn := ⟨2, 6, (.cons (.asg 2 (.lst .nil)) (.cons (.asg 3 (.bin .mod (.bin .mul (.bin .add (.bin .mod (.v 0) (.k (.int 1999999973))) (.k (.int 31))) (.k (.int 765432101))) (.k (.int 1999999973)))) (.cons (.asg 4 (.k (.int 0))) (.cons (.ite (.bor (.cmp .lt (.v 0) (.k (.int 0))) (.cmp .ge (.v 0) (.bin .pow (.k (.int 10)) (.k (.int 18))))) (.cons (.asg 4 (.blt .abs (.cons (.v 0) .nil))) .nil) .nil) (.cons (.for_ (.nm 5) .range (.cons (.v 1) .nil) (.cons (.asg 3 (.bin .mod (.bin .add (.bin .add (.bin .mul (.v 3) (.bin .add (.bin .mod (.v 3) (.k (.int 65521))) (.k (.int 40487)))) (.bin .mul (.k (.int 7)) (.v 5))) (.k (.int 5))) (.k (.int 1999999973)))) (.cons (.append 2 (.ix (.lst (.cons (.v 3) (.cons (.bin .mod (.v 4) (.k (.int 1000000))) .nil))) (.blt .int (.cons (.cmp .gt (.v 4) (.k (.int 0))) .nil)))) (.cons (.asg 4 (.bin .fdiv (.v 4) (.k (.int 1000000)))) .nil)))) (.cons (.ret (.v 2)) .nil))))))⟩
def d13 : Dt := mk "_law_numbers" 19 ["_law_cell_here", "_law_many"] ["_law_cell_here", "_law_many", "_law_found", "_law_state", "_law_digits", "_law_k"] fn13
/-- _law_trim(_law_parts) : 0=_law_parts 1=_law_found -/
def fn14 : Fn := ⟨1, 2, (.cons (.asg 1 (.blt .list (.cons (.v 0) .nil))) (.cons (.whl (.band (.cmp .ne (.v 1) (.lst .nil)) (.cmp .eq (.ix (.v 1) (.bin .sub (.blt .len (.cons (.v 1) .nil)) (.k (.int 1)))) (.k (.int 0)))) (.cons (.pop 1) .nil)) (.cons (.ret (.blt .tuple (.cons (.v 1) .nil))) .nil)))⟩
def d14 : Dt := mk "_law_trim" 20 ["_law_parts"] ["_law_parts", "_law_found"] fn14
/-- _law_board_of(_law_parts) : 0=_law_parts 1=_law_rows 2=_law_k 3=_law_i -/
def fn15 : Fn := ⟨1, 4, (.cons (.asg 1 (.lst .nil)) (.cons (.for_ (.nm 2) .range (.cons (.k (.int 9)) .nil) (.cons (.append 1 (.call 14 (.cons (.comp (.mt .get2 (.v 0) (.cons (.tup (.cons (.v 3) (.cons (.v 2) .nil))) (.cons (.k (.int 0)) .nil))) (.nm 3) .range (.cons (.k (.int 9)) .nil) .nil [3]) .nil))) .nil)) (.cons (.whl (.band (.cmp .ne (.v 1) (.lst .nil)) (.cmp .eq (.ix (.v 1) (.bin .sub (.blt .len (.cons (.v 1) .nil)) (.k (.int 1)))) (.tup .nil))) (.cons (.pop 1) .nil)) (.cons (.ret (.blt .tuple (.cons (.v 1) .nil))) .nil))))⟩
def d15 : Dt := mk "_law_board_of" 21 ["_law_parts"] ["_law_parts", "_law_rows", "_law_k", "_law_i"] fn15
/-- _law_product(_law_one, _law_other) : 0=_law_one 1=_law_other 2=_law_found 3=_law_i 4=_law_k 5=_law_j 6=_law_m -/
def fn16 : Fn := ⟨2, 7, (.cons (.asg 2 (.dct .nil)) (.cons (.for_ (.tp (.cons (.nm 3) (.cons (.nm 4) .nil))) .keys (.cons (.v 0) .nil) (.cons (.for_ (.tp (.cons (.nm 5) (.cons (.nm 6) .nil))) .keys (.cons (.v 1) .nil) (.cons (.put 2 (.tup (.cons (.bin .add (.v 3) (.v 5)) (.cons (.bin .add (.v 4) (.v 6)) .nil))) (.bin .add (.mt .get2 (.v 2) (.cons (.tup (.cons (.bin .add (.v 3) (.v 5)) (.cons (.bin .add (.v 4) (.v 6)) .nil))) (.cons (.k (.int 0)) .nil))) (.bin .mul (.ix (.v 0) (.tup (.cons (.v 3) (.cons (.v 4) .nil)))) (.ix (.v 1) (.tup (.cons (.v 5) (.cons (.v 6) .nil))))))) .nil)) .nil)) (.cons (.ret (.v 2)) .nil)))⟩
def d16 : Dt := mk "_law_product" 22 ["_law_one", "_law_other"] ["_law_one", "_law_other", "_law_found", "_law_i", "_law_k", "_law_j", "_law_m"] fn16
/-- _law_line(_law_xs) : 0=_law_xs -/
def fn17 : Fn := ⟨1, 1, (.cons (.ret (.dct (.cons (.tup (.cons (.k (.int 0)) (.cons (.k (.int 0)) .nil))) (.cons (.bin .sub (.bin .mod (.ix (.v 0) (.k (.int 0))) (.k (.int 11))) (.k (.int 5))) (.cons (.tup (.cons (.k (.int 1)) (.cons (.k (.int 0)) .nil))) (.cons (.bin .sub (.bin .mod (.ix (.v 0) (.k (.int 1))) (.k (.int 7))) (.k (.int 3))) (.cons (.tup (.cons (.k (.int 0)) (.cons (.k (.int 1)) .nil))) (.cons (.bin .sub (.bin .mod (.ix (.v 0) (.k (.int 2))) (.k (.int 5))) (.k (.int 2))) .nil)))))))) .nil)⟩
def d17 : Dt := mk "_law_line" 23 ["_law_xs"] ["_law_xs"] fn17
/-- _law_conic(_law_xs) : 0=_law_xs 1=_law_size 2=_law_found 3=_law_spots 4=_law_k -/
def fn18 : Fn := ⟨1, 5, (.cons (.asg 1 (.bin .add (.k (.int 1)) (.bin .mod (.ix (.v 0) (.k (.int 0))) (.k (.int 4))))) (.cons (.asg 2 (.dct .nil)) (.cons (.asg 3 (.lst (.cons (.tup (.cons (.k (.int 0)) (.cons (.k (.int 0)) .nil))) (.cons (.tup (.cons (.k (.int 1)) (.cons (.k (.int 0)) .nil))) (.cons (.tup (.cons (.k (.int 0)) (.cons (.k (.int 1)) .nil))) (.cons (.tup (.cons (.k (.int 2)) (.cons (.k (.int 0)) .nil))) (.cons (.tup (.cons (.k (.int 1)) (.cons (.k (.int 1)) .nil))) (.cons (.tup (.cons (.k (.int 0)) (.cons (.k (.int 2)) .nil))) .nil)))))))) (.cons (.for_ (.nm 4) .range (.cons (.k (.int 6)) .nil) (.cons (.ite (.cmp .gt (.bin .mod (.bin .fdiv (.ix (.v 0) (.bin .add (.k (.int 1)) (.v 4))) (.k (.int 16))) (.k (.int 3))) (.k (.int 0))) (.cons (.put 2 (.ix (.v 3) (.v 4)) (.bin .sub (.bin .mod (.ix (.v 0) (.bin .add (.k (.int 1)) (.v 4))) (.bin .add (.bin .mul (.k (.int 2)) (.v 1)) (.k (.int 1)))) (.v 1))) .nil) .nil) .nil)) (.cons (.ret (.v 2)) .nil)))))⟩
def d18 : Dt := mk "_law_conic" 24 ["_law_xs"] ["_law_xs", "_law_size", "_law_found", "_law_spots", "_law_k"] fn18
/-- _law_board(_law_cell_here) : 0=_law_cell_here 1=_law_xs 2=_law_way -/
def fn19 : Fn := ⟨1, 3, (.cons (.asg 1 (.call 13 (.cons (.v 0) (.cons (.k (.int 12)) .nil)))) (.cons (.asg 2 (.bin .mod (.ix (.v 1) (.k (.int 0))) (.k (.int 8)))) (.cons (.ite (.cmp .lt (.v 2) (.k (.int 2))) (.cons (.ret (.call 15 (.cons (.call 18 (.cons (.sl (.v 1) (.cons (.k (.int 1)) .nil) .nil) .nil)) .nil))) .nil) .nil) (.cons (.ite (.cmp .eq (.v 2) (.k (.int 2))) (.cons (.ret (.call 15 (.cons (.dct (.cons (.tup (.cons (.k (.int 0)) (.cons (.k (.int 0)) .nil))) (.cons (.bin .sub (.bin .mod (.ix (.v 1) (.k (.int 1))) (.k (.int 11))) (.k (.int 5))) (.cons (.tup (.cons (.k (.int 1)) (.cons (.k (.int 0)) .nil))) (.cons (.bin .sub (.bin .mod (.ix (.v 1) (.k (.int 2))) (.k (.int 7))) (.k (.int 3))) (.cons (.tup (.cons (.k (.int 2)) (.cons (.k (.int 0)) .nil))) (.cons (.bin .sub (.bin .mod (.ix (.v 1) (.k (.int 3))) (.k (.int 5))) (.k (.int 2))) .nil))))))) .nil))) .nil) .nil) (.cons (.ite (.cmp .eq (.v 2) (.k (.int 3))) (.cons (.ret (.call 15 (.cons (.call 16 (.cons (.call 17 (.cons (.sl (.v 1) (.cons (.k (.int 1)) .nil) .nil) .nil)) (.cons (.call 17 (.cons (.sl (.v 1) (.cons (.k (.int 4)) .nil) .nil) .nil)) .nil))) .nil))) .nil) .nil) (.cons (.ite (.cmp .eq (.v 2) (.k (.int 4))) (.cons (.ret (.call 15 (.cons (.call 16 (.cons (.call 17 (.cons (.sl (.v 1) (.cons (.k (.int 1)) .nil) .nil) .nil)) (.cons (.call 17 (.cons (.lst (.cons (.ix (.v 1) (.k (.int 1))) (.cons (.ix (.v 1) (.k (.int 2))) (.cons (.ix (.v 1) (.k (.int 3))) .nil)))) .nil)) .nil))) .nil))) .nil) .nil) (.cons (.ite (.cmp .eq (.v 2) (.k (.int 5))) (.cons (.ret (.call 15 (.cons (.call 16 (.cons (.dct (.cons (.tup (.cons (.k (.int 0)) (.cons (.k (.int 0)) .nil))) (.cons (.bin .sub (.bin .mod (.ix (.v 1) (.k (.int 1))) (.k (.int 5))) (.k (.int 2))) (.cons (.tup (.cons (.k (.int 1)) (.cons (.k (.int 0)) .nil))) (.cons (.k (.int 1)) .nil))))) (.cons (.call 17 (.cons (.sl (.v 1) (.cons (.k (.int 4)) .nil) .nil) .nil)) .nil))) .nil))) .nil) .nil) (.cons (.ite (.cmp .eq (.v 2) (.k (.int 6))) (.cons (.ret (.call 15 (.cons (.dct (.cons (.tup (.cons (.k (.int 0)) (.cons (.k (.int 0)) .nil))) (.cons (.bin .sub (.k (.int 0)) (.bin .mod (.ix (.v 1) (.k (.int 1))) (.k (.int 10)))) (.cons (.tup (.cons (.k (.int 2)) (.cons (.k (.int 0)) .nil))) (.cons (.bin .add (.k (.int 1)) (.bin .mod (.ix (.v 1) (.k (.int 2))) (.k (.int 2)))) (.cons (.tup (.cons (.k (.int 0)) (.cons (.k (.int 2)) .nil))) (.cons (.bin .add (.k (.int 1)) (.bin .mod (.ix (.v 1) (.k (.int 3))) (.k (.int 2)))) .nil))))))) .nil))) .nil) .nil) (.cons (.ret (.call 15 (.cons (.call 17 (.cons (.sl (.v 1) (.cons (.k (.int 1)) .nil) .nil) .nil)) .nil))) .nil)))))))))⟩
def d19 : Dt := mk "_law_board" 25 ["_law_cell_here"] ["_law_cell_here", "_law_xs", "_law_way"] fn19
/-- _law_small_row(_law_xs, _law_size) : 0=_law_xs 1=_law_size 2=_law_x -/
def fn20 : Fn := ⟨2, 3, (.cons (.ret (.call 14 (.cons (.comp (.bin .mul (.bin .mod (.bin .fdiv (.v 2) (.k (.int 7))) (.v 1)) (.ix (.lst (.cons (.k (.int 1)) (.cons (.neg (.k (.int 1))) (.cons (.k (.int 0)) .nil)))) (.bin .mod (.v 2) (.k (.int 3))))) (.nm 2) .seq (.cons (.v 0) .nil) .nil [2]) .nil))) .nil)⟩
def d20 : Dt := mk "_law_small_row" 26 ["_law_xs", "_law_size"] ["_law_xs", "_law_size", "_law_x"] fn20
/-- _law_drawn(_law_cell_here) : 0=_law_cell_here 1=_law_xs 2=_law_board_here 3=_law_rows 4=_law_k -/
def fn21 : Fn := ⟨1, 5, (.cons (.asg 1 (.call 13 (.cons (.v 0) (.cons (.k (.int 40)) .nil)))) (.cons (.asg 2 (.call 19 (.cons (.v 0) .nil))) (.cons (.ite (.band (.cmp .mem (.blt .len (.cons (.v 2) .nil)) (.tup (.cons (.k (.int 2)) (.cons (.k (.int 3)) .nil)))) (.cmp .eq (.bin .mod (.ix (.v 1) (.k (.int 39))) (.k (.int 2))) (.k (.int 1)))) (.cons (.ret (.v 2)) .nil) .nil) (.cons (.asg 3 (.lst .nil)) (.cons (.for_ (.nm 4) .range (.cons (.bin .add (.k (.int 2)) (.bin .mod (.ix (.v 1) (.k (.int 20))) (.k (.int 2)))) .nil) (.cons (.append 3 (.call 20 (.cons (.sl (.v 1) (.cons (.bin .add (.k (.int 21)) (.bin .mul (.k (.int 3)) (.v 4))) .nil) (.cons (.bin .add (.bin .add (.k (.int 22)) (.bin .mul (.k (.int 3)) (.v 4))) (.bin .mod (.ix (.v 1) (.k (.int 30))) (.k (.int 3)))) .nil)) (.cons (.bin .add (.k (.int 2)) (.bin .mod (.ix (.v 1) (.k (.int 31))) (.k (.int 7)))) .nil)))) .nil)) (.cons (.ite (.cmp .eq (.ix (.v 3) (.neg (.k (.int 1)))) (.tup .nil)) (.cons (.put 3 (.neg (.k (.int 1))) (.tup (.cons (.bin .add (.k (.int 1)) (.bin .mod (.ix (.v 1) (.k (.int 32))) (.k (.int 3)))) .nil))) .nil) .nil) (.cons (.ret (.blt .tuple (.cons (.v 3) .nil))) .nil)))))))⟩
def d21 : Dt := mk "_law_drawn" 27 ["_law_cell_here"] ["_law_cell_here", "_law_xs", "_law_board_here", "_law_rows", "_law_k"] fn21
/-- _law_put(_law_board_here, _law_number, _law_across) : 0=_law_board_here 1=_law_number 2=_law_across 3=_law_more 4=_law_found 5=_law_power 6=_law_row 7=_law_i 8=_law_spot 9=_law_key -/
def fn22 : Fn := ⟨3, 10, (.cons (.asg 3 (.dct (.cons (.tup (.cons (.k (.int 0)) (.cons (.k (.int 1)) .nil))) (.cons (.k (.int 1)) (.cons (.tup (.cons (.v 2) (.cons (.k (.int 0)) .nil))) (.cons (.v 1) .nil)))))) (.cons (.asg 4 (.dct .nil)) (.cons (.asg 5 (.dct (.cons (.tup (.cons (.k (.int 0)) (.cons (.k (.int 0)) .nil))) (.cons (.k (.int 1)) .nil)))) (.cons (.for_ (.nm 6) .seq (.cons (.v 0) .nil) (.cons (.for_ (.nm 7) .range (.cons (.blt .len (.cons (.v 6) .nil)) .nil) (.cons (.for_ (.nm 8) .keys (.cons (.v 5) .nil) (.cons (.asg 9 (.tup (.cons (.bin .add (.ix (.v 8) (.k (.int 0))) (.v 7)) (.cons (.ix (.v 8) (.k (.int 1))) .nil)))) (.cons (.put 4 (.v 9) (.bin .add (.mt .get2 (.v 4) (.cons (.v 9) (.cons (.k (.int 0)) .nil))) (.bin .mul (.ix (.v 6) (.v 7)) (.ix (.v 5) (.v 8))))) .nil))) .nil)) (.cons (.asg 5 (.call 16 (.cons (.v 5) (.cons (.v 3) .nil)))) .nil))) (.cons (.ret (.call 15 (.cons (.v 4) .nil))) .nil)))))⟩
def d22 : Dt := mk "_law_put" 28 ["_law_board_here", "_law_number", "_law_across"] ["_law_board_here", "_law_number", "_law_across", "_law_more", "_law_found", "_law_power", "_law_row", "_law_i", "_law_spot", "_law_key"] fn22
/-- _law_often(_law_row, _law_many) : 0=_law_row 1=_law_many 2=_law_found 3=_law_turn -/
def fn23 : Fn := ⟨2, 4, (.cons (.asg 2 (.tup (.cons (.k (.int 1)) .nil))) (.cons (.for_ (.nm 3) .range (.cons (.v 1) .nil) (.cons (.asg 2 (.call 3 (.cons (.v 2) (.cons (.v 0) .nil)))) .nil)) (.cons (.ret (.v 2)) .nil)))⟩
def d23 : Dt := mk "_law_often" 29 ["_law_row", "_law_many"] ["_law_row", "_law_many", "_law_found", "_law_turn"] fn23
/-- _law_times_number(_law_board_here, _law_number) : 0=_law_board_here 1=_law_number 2=_law_row 3=_law_one -/
def fn24 : Fn := ⟨2, 4, (.cons (.ret (.blt .tuple (.cons (.comp (.blt .tuple (.cons (.comp (.bin .mul (.v 3) (.v 1)) (.nm 3) .seq (.cons (.v 2) .nil) .nil [3]) .nil)) (.nm 2) .seq (.cons (.v 0) .nil) .nil [2]) .nil))) .nil)⟩
def d24 : Dt := mk "_law_times_number" 30 ["_law_board_here", "_law_number"] ["_law_board_here", "_law_number", "_law_row", "_law_one"] fn24
/-- _law_turned_right(_law_f, _law_g, _law_xs) : 0=_law_f 1=_law_g 2=_law_xs 3=_law_most 4=_law_number 5=_law_across 6=_law_k 7=_law_tie 8=_law_sign 9=_law_one 10=_law_other -/
def fn25 : Fn := ⟨3, 11, (.cons (.asg 3 (.blt .min2 (.cons (.blt .len (.cons (.v 0) .nil)) (.cons (.blt .len (.cons (.v 1) .nil)) .nil)))) (.cons (.asg 4 (.bin .sub (.bin .mod (.ix (.v 2) (.k (.int 0))) (.k (.int 7))) (.k (.int 3)))) (.cons (.for_ (.nm 5) .range (.cons (.k (.int 2)) .nil) (.cons (.par 9 10 (.call 22 (.cons (.v 0) (.cons (.v 4) (.cons (.v 5) .nil)))) (.call 22 (.cons (.v 1) (.cons (.v 4) (.cons (.v 5) .nil))))) (.cons (.for_ (.nm 6) .range (.cons (.v 3) .nil) (.cons (.ite (.cmp .ne (.call 11 (.cons (.v 9) (.cons (.v 10) (.cons (.v 6) .nil)))) (.call 11 (.cons (.v 0) (.cons (.v 1) (.cons (.v 6) .nil))))) (.cons (.ret (.k (.bool false))) .nil) .nil) .nil)) .nil))) (.cons (.asg 4 (.ix (.lst (.cons (.k (.int 2)) (.cons (.neg (.k (.int 1))) (.cons (.k (.int 3)) (.cons (.neg (.k (.int 2))) .nil))))) (.bin .mod (.ix (.v 2) (.k (.int 1))) (.k (.int 4))))) (.cons (.for_ (.nm 6) .range (.cons (.v 3) .nil) (.cons (.asg 7 (.call 11 (.cons (.v 0) (.cons (.v 1) (.cons (.v 6) .nil))))) (.cons (.ite (.cmp .ne (.call 11 (.cons (.call 24 (.cons (.v 0) (.cons (.v 4) .nil))) (.cons (.v 1) (.cons (.v 6) .nil)))) (.call 3 (.cons (.v 7) (.cons (.call 23 (.cons (.tup (.cons (.v 4) .nil)) (.cons (.bin .sub (.bin .sub (.blt .len (.cons (.v 1) .nil)) (.k (.int 1))) (.v 6)) .nil))) .nil)))) (.cons (.ret (.k (.bool false))) .nil) .nil) (.cons (.asg 8 (.ix (.lst (.cons (.k (.int 1)) (.cons (.neg (.k (.int 1))) .nil))) (.bin .mod (.bin .mul (.bin .sub (.bin .sub (.blt .len (.cons (.v 0) .nil)) (.k (.int 1))) (.v 6)) (.bin .sub (.bin .sub (.blt .len (.cons (.v 1) .nil)) (.k (.int 1))) (.v 6))) (.k (.int 2))))) (.cons (.ite (.cmp .ne (.call 11 (.cons (.v 1) (.cons (.v 0) (.cons (.v 6) .nil)))) (.call 3 (.cons (.v 7) (.cons (.tup (.cons (.v 8) .nil)) .nil)))) (.cons (.ret (.k (.bool false))) .nil) .nil) .nil))))) (.cons (.ret (.k (.bool true))) .nil))))))⟩
def d25 : Dt := mk "_law_turned_right" 31 ["_law_f", "_law_g", "_law_xs"] ["_law_f", "_law_g", "_law_xs", "_law_most", "_law_number", "_law_across", "_law_k", "_law_tie", "_law_sign", "_law_one", "_law_other"] fn25
/-- law(_law_script) : 0=_law_script 1=_law_both 2=_law_whole 3=_law_power 4=_law_f 5=_law_g 6=_law_h 7=_law_k -/
def fn26 : Fn := ⟨1, 8, (.cons (.unp (.tp (.cons (.nm 4) (.cons (.nm 5) (.cons (.nm 6) .nil)))) (.comp (.call 21 (.cons (.call 12 (.cons (.v 0) (.cons (.v 7) .nil))) .nil)) (.nm 7) .range (.cons (.k (.int 3)) .nil) .nil [7])) (.cons (.asg 1 (.call 5 (.cons (.v 5) (.cons (.v 6) .nil)))) (.cons (.ite (.cmp .ne (.call 11 (.cons (.v 4) (.cons (.v 1) (.cons (.k (.int 0)) .nil)))) (.call 3 (.cons (.call 11 (.cons (.v 4) (.cons (.v 5) (.cons (.k (.int 0)) .nil)))) (.cons (.call 11 (.cons (.v 4) (.cons (.v 6) (.cons (.k (.int 0)) .nil)))) .nil)))) (.cons (.ret (.k (.bool false))) .nil) .nil) (.cons (.asg 2 (.call 5 (.cons (.v 4) (.cons (.v 5) .nil)))) (.cons (.asg 3 (.bin .sub (.blt .len (.cons (.v 4) .nil)) (.k (.int 1)))) (.cons (.ite (.blt .any (.cons (.comp (.cmp .ne (.call 11 (.cons (.v 4) (.cons (.v 2) (.cons (.v 7) .nil)))) (.tup .nil)) (.nm 7) .range (.cons (.v 3) .nil) .nil [7]) .nil)) (.cons (.ret (.k (.bool false))) .nil) .nil) (.cons (.ite (.cmp .ne (.call 11 (.cons (.v 4) (.cons (.v 2) (.cons (.v 3) .nil)))) (.call 23 (.cons (.ix (.v 4) (.neg (.k (.int 1)))) (.cons (.bin .sub (.blt .len (.cons (.v 5) .nil)) (.k (.int 1))) .nil)))) (.cons (.ret (.k (.bool false))) .nil) .nil) (.cons (.ret (.call 25 (.cons (.v 4) (.cons (.v 5) (.cons (.call 13 (.cons (.call 12 (.cons (.v 0) (.cons (.k (.int 3)) .nil))) (.cons (.k (.int 2)) .nil))) .nil))))) .nil))))))))⟩
def d26 : Dt := mk "law" 32 ["_law_script"] ["_law_script", "_law_both", "_law_whole", "_law_power", "_law_f", "_law_g", "_law_h", "_law_k"] fn26
def dts : List Dt := [d0, d1, d2, d3, d4, d5, d6, d7, d8, d9, d10, d11, d12, d13, d14, d15, d16, d17, d18, d19, d20, d21, d22, d23, d24, d25, d26]
def csts : List Str := ["ONE", "LESS"]
def topNames : List Str := ["trimmed", "part_at", "row_plus", "row_times", "cut_off", "board_times", "line_of", "table_of", "turned_sign", "with_line", "determinant", "tie_of", "_law_cell", "_law_numbers", "_law_trim", "_law_board_of", "_law_product", "_law_line", "_law_conic", "_law_board", "_law_small_row", "_law_drawn", "_law_put", "_law_often", "_law_times_number", "_law_turned_right", "law", "ONE", "LESS"]
def tb : Tb := ⟨fun f => dts[f]?, fun n => csts[n]?, fun _ => none, fun x => !topNames.contains x⟩

end T92
end

section
set_option maxRecDepth 100000
set_option maxHeartbeats 4000000
namespace T92
open PySem PySem.Spec PyProof.Rows L2 Pe
abbrev D := Pe.D
def Gc : Nat → D
  | 0 => .tuple [.int 1]
  | _ => .tuple [.int (-1)]
abbrev CC (n f : Nat) (ds : List D) (r : Res) : Prop := Calls Gc tb.T noM n f ds r
/-- f(ds) = d, from depth k on -/
def Does (k f : Nat) (ds : List D) (d : D) : Prop := ∀ n, k ≤ n → CC n f ds (.val d)
theorem Does.mono {k l f : Nat} {ds : List D} {d : D} (h : Does k f ds d) (e : k ≤ l) : Does l f ds d := fun n hn => h n (Nat.le_trans e hn)
theorem does_of {k f : Nat} {fn : Fn} {ds : List D} {d : D} (hf : tb.T f = some fn) (hl : ds.length = fn.np) (h : ∀ n, k ≤ n → wpB Gc (CC n) fn.body (startE fn ds) ⟨fun _ => Res.val d = .val .none, fun e => Res.val d = .val e, fun _ => False, fun _ => False, fun c => Res.val d = .exc c⟩) : Does (k + 1) f ds d := fun n hn => by
  cases n with
  | zero => omega
  | succ n => exact .inr ⟨fn, hf, hl, h n (by omega)⟩

/-! ### rows -/
def ev : List Int → Int → Int
  | [], _ => 0
  | a :: as, t => a + t * ev as t
def nm : List Int → Nat
  | [] => 0
  | a :: as => a.natAbs + nm as
def te (cs : List Int) : Nat → Nat
  | 0 => 0
  | e + 1 => if cs.getD e 0 = 0 then te cs e else e + 1
def trim (cs : List Int) : List Int := cs.take (te cs cs.length)
def rowD (cs : List Int) : D := .tuple (cs.map .int)
def Trimmed (cs : List Int) : Prop := ∀ e, cs.length = e + 1 → cs.getD e 0 ≠ 0
theorem te_le (cs : List Int) : ∀ e, te cs e ≤ e
  | 0 => Nat.le_refl 0
  | e + 1 => by
    unfold te
    split
    · exact Nat.le_succ_of_le (te_le cs e)
    · exact Nat.le_refl _
theorem te_zero (cs : List Int) : ∀ e i, te cs e ≤ i → i < e → cs.getD i 0 = 0
  | 0, i, _, h => by omega
  | e + 1, i, h1, h2 => by
    unfold te at h1
    split at h1
    · rename_i hz
      by_cases hi : i = e
      · rw [hi]
        exact hz
      · exact te_zero cs e i h1 (by omega)
    · omega
theorem te_last (cs : List Int) : ∀ e f, te cs e = f + 1 → cs.getD f 0 ≠ 0
  | 0, f, h => by
    unfold te at h
    omega
  | e + 1, f, h => by
    unfold te at h
    split at h
    · exact te_last cs e f h
    · rename_i hz
      have : f = e := by omega
      rw [this]
      exact hz
theorem trim_trimmed (cs : List Int) : Trimmed (trim cs) := fun e h => by
  unfold trim at h ⊢
  rw [List.length_take, Nat.min_eq_left (te_le cs _)] at h
  have z := te_last cs cs.length e h
  rw [List.getD_eq_getElem?_getD, List.getElem?_take, if_pos (by omega), ← List.getD_eq_getElem?_getD]
  exact z
theorem ev_take (t : Int) : ∀ (cs : List Int) (e : Nat), (∀ i, e ≤ i → cs.getD i 0 = 0) → ev (cs.take e) t = ev cs t
  | [], _, _ => by rw [List.take_nil]
  | a :: as, 0, h => by
    have h0 := h 0 (Nat.le_refl 0)
    have z : a = 0 := h0
    have r := ev_take t as 0 fun i _ => by
      have := h (i + 1) (by omega)
      exact this
    rw [List.take_zero] at r ⊢
    have r' : ev as t = 0 := r.symm
    show (0 : Int) = a + t * ev as t
    rw [z, r']
    simp
  | a :: as, e + 1, h => by
    rw [List.take_succ_cons]
    unfold ev
    rw [ev_take t as e fun i hi => by
      have := h (i + 1) (by omega)
      exact this]
theorem ev_trim (cs : List Int) (t : Int) : ev (trim cs) t = ev cs t := ev_take t cs _ fun i hi => by
  rcases Nat.lt_or_ge i cs.length with h | h
  · exact te_zero cs _ i hi h
  · rw [List.getD_eq_getElem?_getD, List.getElem?_eq_none h]
    rfl
theorem nm_take : ∀ (cs : List Int) (e : Nat), nm (cs.take e) ≤ nm cs
  | [], _ => by rw [List.take_nil]; exact Nat.le_refl _
  | a :: as, 0 => Nat.zero_le _
  | a :: as, e + 1 => Nat.add_le_add_left (nm_take as e) _
/-- a row by its value everywhere -/
def Row (L k : Nat) (d : D) (p : Int → Int) : Prop := ∃ cs, d = rowD cs ∧ Trimmed cs ∧ cs.length ≤ L ∧ nm cs ≤ 2 ^ k ∧ ∀ t, ev cs t = p t
theorem Row.mono {L k L' k' : Nat} {d : D} {p : Int → Int} (h : Row L k d p) (hL : L ≤ L') (hk : k ≤ k') : Row L' k' d p := by
  obtain ⟨cs, e, t, l, n, v⟩ := h
  exact ⟨cs, e, t, Nat.le_trans l hL, Nat.le_trans n (Nat.pow_le_pow_right (by decide) hk), v⟩
theorem Row.congr {L k : Nat} {d : D} {p q : Int → Int} (h : Row L k d p) (e : ∀ t, p t = q t) : Row L k d q := by
  obtain ⟨cs, e1, t, l, n, v⟩ := h
  exact ⟨cs, e1, t, l, n, fun x => (v x).trans (e x)⟩
/-! a row that is nowhere but 0 is () -/
theorem ev_big : ∀ (cs : List Int), Trimmed cs → cs ≠ [] → ∃ T : Int, ∀ t, T ≤ t → ev cs t ≠ 0
  | [], _, h => absurd rfl h
  | [a], ht, _ => ⟨0, fun t _ => by
    have z : a ≠ 0 := ht 0 rfl
    unfold ev ev
    simpa using z⟩
  | a :: b :: r, ht, _ => by
    obtain ⟨T, hT⟩ := ev_big (b :: r) (fun e h => by
      have := ht (e + 1) (by rw [List.length_cons, h])
      exact this) (by simp)
    refine ⟨(if T < (a.natAbs : Int) + 1 then (a.natAbs : Int) + 1 else T), fun t h hz => ?_⟩
    have h1 : T ≤ t ∧ (a.natAbs : Int) + 1 ≤ t := by
      split at h <;> omega
    have hn := hT t h1.1
    unfold ev at hz
    generalize ev (b :: r) t = q at hz hn
    have hq : a = -(t * q) := by omega
    have : (a.natAbs : Int) = t * (q.natAbs : Int) := by
      rw [hq, Int.natAbs_neg, Int.natAbs_mul]
      have : (t.natAbs : Int) = t := by omega
      rw [Int.natCast_mul, this]
    have q1 : (1 : Int) ≤ (q.natAbs : Int) := by omega
    have : t * 1 ≤ t * (q.natAbs : Int) := Int.mul_le_mul_of_nonneg_left q1 (by omega)
    omega
/-- two rows whose values are alike everywhere are alike -/
theorem ev_inj : ∀ (cs ds : List Int), Trimmed cs → Trimmed ds → (∀ t : Int, 1 ≤ t → ev cs t = ev ds t) → cs = ds
  | [], [], _, _, _ => rfl
  | [], d :: ds, _, h2, h => by
    obtain ⟨T, hT⟩ := ev_big (d :: ds) h2 (by simp)
    have := h (if T < 1 then 1 else T) (by split <;> omega)
    exact absurd this.symm (hT _ (by split <;> omega))
  | c :: cs, [], h1, _, h => by
    obtain ⟨T, hT⟩ := ev_big (c :: cs) h1 (by simp)
    have := h (if T < 1 then 1 else T) (by split <;> omega)
    exact absurd this (hT _ (by split <;> omega))
  | c :: cs, d :: ds, h1, h2, h => by
    have hc : c = d := by
      have h' := h ((c - d).natAbs + 1) (by omega)
      unfold ev at h'
      generalize hx : ev cs (((c - d).natAbs : Int) + 1) = x at h'
      generalize hy : ev ds (((c - d).natAbs : Int) + 1) = y at h'
      have hq : c - d = (((c - d).natAbs : Int) + 1) * (y - x) := by
        rw [Int.mul_sub]
        omega
      by_cases hz : y - x = 0
      · rw [hz, Int.mul_zero] at hq
        omega
      · exfalso
        have e := congrArg Int.natAbs hq
        rw [Int.natAbs_mul] at e
        have a1 : (((c - d).natAbs : Int) + 1).natAbs = (c - d).natAbs + 1 := by omega
        rw [a1] at e
        have a2 : 1 ≤ (y - x).natAbs := by omega
        have : ((c - d).natAbs + 1) * 1 ≤ ((c - d).natAbs + 1) * (y - x).natAbs := Nat.mul_le_mul_left _ a2
        omega
    subst hc
    have t1 : Trimmed cs := fun e he => by
      have := h1 (e + 1) (by rw [List.length_cons, he])
      exact this
    have t2 : Trimmed ds := fun e he => by
      have := h2 (e + 1) (by rw [List.length_cons, he])
      exact this
    rw [ev_inj cs ds t1 t2 fun t ht => by
      have h' := h t ht
      unfold ev at h'
      have : t * ev cs t = t * ev ds t := by omega
      exact Int.eq_of_mul_eq_mul_left (by omega) this]
theorem Row.inj {L k L' k' : Nat} {d d' : D} {p q : Int → Int} (h : Row L k d p) (h' : Row L' k' d' q) (e : ∀ t, p t = q t) : d = d' := by
  obtain ⟨cs, e1, t1, _, _, v1⟩ := h
  obtain ⟨ds, e2, t2, _, _, v2⟩ := h'
  rw [e1, e2, ev_inj cs ds t1 t2 fun t _ => (v1 t).trans ((e t).trans (v2 t).symm)]
theorem Row.nz {L k : Nat} {d : D} {p : Int → Int} (h : Row L k d p) (hd : d ≠ .tuple []) : ∃ T : Int, ∀ t, T ≤ t → p t ≠ 0 := by
  obtain ⟨cs, e1, t1, _, _, v1⟩ := h
  obtain ⟨T, hT⟩ := ev_big cs t1 fun z => hd (by rw [e1, z]; rfl)
  exact ⟨T, fun t ht => by rw [← v1]; exact hT t ht⟩
theorem row_zero {L k : Nat} : Row L k (.tuple []) fun _ => 0 := ⟨[], rfl, (fun e h => by cases h), Nat.zero_le _, Nat.zero_le _, fun _ => rfl⟩
end T92
end

section
set_option maxRecDepth 100000
set_option maxHeartbeats 4000000
namespace T92
open PySem L2 Pe
theorem cut_to (xs : List D) (e : Nat) (h : e ≤ xs.length) : Pe.cutD xs none (some (e : Int)) = xs.take e := by
  unfold Pe.cutD
  rw [HT.sIx_none, HT.sIx_nat, Nat.min_eq_left h]
  simp
theorem at_nat {xs : List D} {i : Nat} {v : D} (h : xs[i]? = some v) : atI xs (i : Int) = some v := by
  have hi := (List.getElem?_eq_some_iff.mp h).1
  unfold atI ixN
  rw [if_pos (by omega), if_pos (by omega)]
  simpa using h
theorem shaped_int (i : Int) : okEq (.int i) := by
  unfold okEq SeqAt.shaped
  rfl
theorem ev_int (i j : Int) : eqd (.int i) (.int j) = decide (i = j) := by
  show PyData.eqv (.int i) (.int j) = _
  unfold PyData.eqv
  by_cases h : i = j
  · subst h
    simp
  · simp [h]
theorem getD_int (cs : List Int) (i : Nat) (h : i < cs.length) : (cs.map PyData.int)[i]? = some (.int (cs.getD i 0)) := by
  rw [List.getElem?_map, List.getD_eq_getElem?_getD, List.getElem?_eq_getElem h]
  rfl
theorem trim_core {n : Nat} {cs : List Int} {d : D} (hd : (d = .list (cs.map .int)) ∨ d = .tuple (cs.map .int)) : wpB Gc (CC n) fn0.body (startE fn0 [d]) ⟨fun _ => Res.val (rowD (trim cs)) = .val .none, fun e => Res.val (rowD (trim cs)) = .val e, fun _ => False, fun _ => False, fun c => Res.val (rowD (trim cs)) = .exc c⟩ := by
  have fin : ∀ m, m ≤ cs.length → te cs cs.length = te cs m → te cs m = m → rowD (trim cs) = .tuple (Pe.cutD (cs.map .int) none (some (m : Int))) := fun m h1 h2 h3 => by
    rw [cut_to _ _ (by rw [List.length_map]; exact h1)]
    unfold rowD trim
    rw [h2, h3, List.map_take]
  rcases hd with rfl | rfl <;>
  · conv => whnf
    refine whl_rule (fun e ρ => e ≤ cs.length ∧ te cs cs.length = te cs e ∧ ∃ e' : Int, e' = e ∧ ρ = [.im _, .im (.int e')]) (fun m ρ N hI hN => ?_) (m := cs.length) ⟨Nat.le_refl _, rfl, _, by rw [List.length_map], rfl⟩
    obtain ⟨h1, h2, e', he, rfl⟩ := hI
    subst he
    conv => whnf
    refine ⟨_, _, rfl, rfl, ?_⟩
    conv => whnf
    refine ⟨_, rfl, ?_⟩
    cases m with
    | zero =>
      refine ifF (by decide) ?_
      conv => whnf
      refine ⟨_, rfl, ?_⟩
      refine ifF (by rfl) ?_
      conv => whnf
      refine ⟨_, rfl, _, rfl, ?_⟩
      conv => whnf
      exact congrArg Res.val (fin 0 h1 h2 rfl)
    | succ m =>
      refine ifT (by rw [decide_eq_true_eq]; omega) ?_
      have e1 : ((m + 1 : Nat) : Int) - 1 = (m : Int) := by omega
      conv => whnf
      refine ⟨_, _, rfl, (by rw [e1]; exact at_nat (getD_int cs m h1)), ?_⟩
      conv => whnf
      refine ⟨shaped_int _, shaped_int _, ?_⟩
      conv => whnf
      refine ⟨_, rfl, ?_⟩
      rw [ev_int]
      by_cases hz : cs.getD m 0 = 0
      · refine ifT (decide_eq_true hz) ?_
        conv => whnf
        refine ⟨_, rfl, ?_⟩
        conv => whnf
        refine ⟨_, _, rfl, rfl, ?_⟩
        refine hN m _ (Nat.lt_succ_self m) ⟨by omega, ?_, _, e1, rfl⟩
        rw [h2]
        show (if cs.getD m 0 = 0 then te cs m else m + 1) = _
        rw [if_pos hz]
      · refine ifF (decide_eq_false hz) ?_
        conv => whnf
        refine ⟨_, rfl, _, rfl, ?_⟩
        conv => whnf
        refine congrArg Res.val (fin (m + 1) h1 h2 ?_)
        show (if cs.getD m 0 = 0 then te cs m else m + 1) = _
        rw [if_neg hz]
theorem f_trimmed {cs : List Int} {d : D} (hd : (d = .list (cs.map .int)) ∨ d = .tuple (cs.map .int)) : Does 1 0 [d] (rowD (trim cs)) := does_of (fn := fn0) rfl rfl fun n _ => trim_core hd
end T92
end

section
set_option maxRecDepth 100000
set_option maxHeartbeats 4000000
namespace T92
open PySem L2 Pe
theorem rowD_eq (cs : List Int) : rowD cs = .tuple (cs.map .int) := by
  unfold rowD
  rfl
theorem map_len (cs : List Int) : (cs.map PyData.int).length = cs.length := List.length_map ..
theorem f_part_at (cs : List Int) (p : Nat) : Does 1 1 [rowD cs, .int p] (.int (cs.getD p 0)) := by
  refine does_of (fn := fn1) rfl rfl fun n _ => ?_
  rw [rowD_eq]
  conv => whnf
  refine ⟨_, _, rfl, rfl, ?_⟩
  conv => whnf
  refine ⟨_, rfl, ?_⟩
  by_cases h : p < cs.length
  · refine ifT (by rw [decide_eq_true_eq, map_len]; omega) ?_
    conv => whnf
    refine ⟨_, _, rfl, at_nat (getD_int cs p h), ?_⟩
    conv => whnf
  · refine ifF (by rw [decide_eq_false_iff_not, map_len]; omega) ?_
    conv => whnf
    rw [List.getD_eq_getElem?_getD, List.getElem?_eq_none (by omega)]
    rfl
/-! sums -/
def addN (cs ds : List Int) (n : Nat) : List Int := (List.range n).map fun k => cs.getD k 0 + ds.getD k 0
theorem addN_zero (cs ds : List Int) : addN cs ds 0 = [] := rfl
theorem addN_succ (cs ds : List Int) (n : Nat) : addN cs ds (n + 1) = (cs.getD 0 0 + ds.getD 0 0) :: addN cs.tail ds.tail n := by
  unfold addN
  rw [List.range_succ_eq_map, List.map_cons, List.map_map]
  congr 1
  apply List.map_congr_left
  intro k _
  have h : ∀ l : List Int, l.getD (k + 1) 0 = l.tail.getD k 0 := fun l => by
    cases l <;> rfl
  show cs.getD (k + 1) 0 + ds.getD (k + 1) 0 = _
  rw [h, h]
theorem ev_head (cs : List Int) (t : Int) : ev cs t = cs.getD 0 0 + t * ev cs.tail t := by
  cases cs with
  | nil => simp [ev]
  | cons a as => rfl
theorem nm_head (cs : List Int) : nm cs = (cs.getD 0 0).natAbs + nm cs.tail := by
  cases cs with
  | nil => rfl
  | cons a as => rfl
theorem ev_addN (t : Int) : ∀ (n : Nat) (cs ds : List Int), cs.length ≤ n → ds.length ≤ n → ev (addN cs ds n) t = ev cs t + ev ds t
  | 0, cs, ds, h1, h2 => by
    have e1 : cs = [] := List.length_eq_zero_iff.mp (by omega)
    have e2 : ds = [] := List.length_eq_zero_iff.mp (by omega)
    rw [e1, e2]
    rfl
  | n + 1, cs, ds, h1, h2 => by
    rw [addN_succ, ev_head cs, ev_head ds]
    show cs.getD 0 0 + ds.getD 0 0 + t * ev (addN cs.tail ds.tail n) t = _
    rw [ev_addN t n cs.tail ds.tail (by rw [List.length_tail]; omega) (by rw [List.length_tail]; omega)]
    grind
theorem nm_addN : ∀ (n : Nat) (cs ds : List Int), nm (addN cs ds n) ≤ nm cs + nm ds
  | 0, cs, ds => Nat.zero_le _
  | n + 1, cs, ds => by
    rw [addN_succ, nm_head cs, nm_head ds]
    show (cs.getD 0 0 + ds.getD 0 0).natAbs + nm (addN cs.tail ds.tail n) ≤ _
    have := nm_addN n cs.tail ds.tail
    omega
theorem addN_len (cs ds : List Int) (n : Nat) : (addN cs ds n).length = n := by
  unfold addN
  rw [List.length_map, List.length_range]
theorem trim_len (cs : List Int) : (trim cs).length ≤ cs.length := by
  unfold trim
  rw [List.length_take]
  omega
theorem trim_nm (cs : List Int) : nm (trim cs) ≤ nm cs := nm_take cs _
theorem row_trim {L k : Nat} {cs : List Int} {p : Int → Int} (hl : cs.length ≤ L) (hn : nm cs ≤ 2 ^ k) (he : ∀ t, ev cs t = p t) : Row L k (rowD (trim cs)) p :=
  ⟨trim cs, rfl, trim_trimmed cs, Nat.le_trans (trim_len cs) hl, Nat.le_trans (trim_nm cs) hn, fun t => (ev_trim cs t).trans (he t)⟩
theorem f_row_plus (cs ds : List Int) (h1 : cs.length ≤ 2 ^ 20) (h2 : ds.length ≤ 2 ^ 20) : Does 2 2 [rowD cs, rowD ds] (rowD (trim (addN cs ds (max cs.length ds.length)))) := by
  refine does_of (fn := fn2) rfl rfl fun n hn => ?_
  have hmax : (if ((ds.map PyData.int).length : Int) > ((cs.map PyData.int).length : Int) then ((ds.map PyData.int).length : Int) else ((cs.map PyData.int).length : Int)) = ((max cs.length ds.length : Nat) : Int) := by
    rw [map_len, map_len]
    split <;> omega
  have a1 := f_part_at cs
  have a2 := f_part_at ds
  rw [rowD_eq] at a1 a2
  rw [rowD_eq cs, rowD_eq ds]
  conv => whnf
  rw [hmax]
  refine ⟨⟨by omega, by omega⟩, ?_⟩
  rw [Int.toNat_natCast]
  refine comp_rule (fun i acc ρ => acc = (addN cs ds i).map .int ∧ ∃ s, ρ = [.im (.tuple (cs.map .int)), .im (.tuple (ds.map .int)), s]) (fun i x acc ρ N hx hI hN => ?_) (fun acc ρ hI => ?_) ⟨rfl, _, rfl⟩
  · obtain ⟨hi, rfl⟩ := rgD_at hx
    obtain ⟨rfl, s, rfl⟩ := hI
    rw [Int.zero_add]
    conv => whnf
    refine ⟨_, rfl, ?_⟩
    refine ifT rfl ?_
    conv => whnf
    refine ⟨_, a1 i n (by omega), ?_⟩
    conv => whnf
    refine ⟨_, a2 i n (by omega), ?_⟩
    conv => whnf
    refine ⟨by rw [map_len, addN_len]; have : 2 ^ 20 < sizeLine := by decide
               omega, ?_⟩
    refine hN _ _ ⟨?_, _, rfl⟩
    have e : addN cs ds (i + 1) = addN cs ds i ++ [cs.getD i 0 + ds.getD i 0] := by
      unfold addN
      rw [List.range_succ, List.map_append]
      rfl
    rw [e, List.map_append]
    rfl
  · obtain ⟨rfl, s, rfl⟩ := hI
    rw [rgD_len]
    conv => whnf
    exact ⟨_, f_trimmed (.inl rfl) n (by omega), rfl⟩
theorem row_plus {L k L' k' : Nat} {a b : D} {p q : Int → Int} (ha : Row L k a p) (hb : Row L' k' b q) (hL : L ≤ 2 ^ 20) (hL' : L' ≤ 2 ^ 20) : ∃ d, Does 2 2 [a, b] d ∧ Row (max L L') (max k k' + 1) d fun t => p t + q t := by
  obtain ⟨cs, rfl, t1, l1, n1, v1⟩ := ha
  obtain ⟨ds, rfl, t2, l2, n2, v2⟩ := hb
  refine ⟨_, f_row_plus cs ds (by omega) (by omega), row_trim (by rw [addN_len]; omega) ?_ fun t => ?_⟩
  · have := nm_addN (max cs.length ds.length) cs ds
    have e1 : 2 ^ k ≤ 2 ^ max k k' := Nat.pow_le_pow_right (by decide) (by omega)
    have e2 : 2 ^ k' ≤ 2 ^ max k k' := Nat.pow_le_pow_right (by decide) (by omega)
    rw [Nat.pow_succ]
    omega
  · rw [ev_addN t _ cs ds (by omega) (by omega), v1, v2]
end T92
end

section
set_option maxRecDepth 100000
set_option maxHeartbeats 4000000
namespace T92
open PySem L2 Pe
theorem bits_le {a : Int} {k : Nat} (h : a.natAbs ≤ 2 ^ k) : Builtin.Int.intBits a ≤ k + 1 := by
  unfold Builtin.Int.intBits
  split
  · omega
  · rename_i hz
    have h0 : a.natAbs ≠ 0 := fun z => hz (by
      have : a = 0 := by omega
      rw [this]
      rfl)
    have := (Nat.log2_lt h0 (k := k + 1)).mpr (by rw [Nat.pow_succ]; have : 0 < 2 ^ k := Nat.pow_pos (by decide); omega)
    omega
theorem mul_ok {a b : Int} {k k' : Nat} (h1 : a.natAbs ≤ 2 ^ k) (h2 : b.natAbs ≤ 2 ^ k') (h : k + k' + 2 ≤ 2 ^ 27) : mulOk a b := by
  unfold mulOk PySem.IntMulOk
  have e1 := bits_le h1
  have e2 := bits_le h2
  have : Builtin.Int.intTooBig (Builtin.Int.intBits a + Builtin.Int.intBits b) = false := by
    unfold Builtin.Int.intTooBig bitsLine
    rw [decide_eq_false_iff_not]
    omega
  rw [this, Bool.and_false]
  exact Bool.false_ne_true
theorem ix_nat {n i : Nat} (h : i < n) : ixN n (i : Int) = some i := by
  unfold ixN
  rw [if_pos (by omega), if_pos (by omega), Int.toNat_natCast]
theorem rep_zero (d : D) (n : Nat) : repL [d] (n : Int) = List.replicate n d := by
  unfold repL
  rw [Int.toNat_natCast]
  induction n with
  | zero => rfl
  | succ n ih => rw [List.replicate_succ, List.flatten_cons, ih]; rfl
theorem ev_set (t x : Int) : ∀ (zs : List Int) (k : Nat), k < zs.length → ev (zs.set k (zs.getD k 0 + x)) t = ev zs t + x * t ^ k
  | [], k, h => by simp at h
  | z :: zs, 0, h => by
    show z + x + t * ev zs t = z + t * ev zs t + x * t ^ 0
    rw [Int.pow_zero]
    omega
  | z :: zs, k + 1, h => by
    show z + t * ev (zs.set k (zs.getD k 0 + x)) t = z + t * ev zs t + x * t ^ (k + 1)
    rw [ev_set t x zs k (by simpa using h), Int.pow_succ]
    grind
theorem nm_set (x : Int) : ∀ (zs : List Int) (k : Nat), nm (zs.set k (zs.getD k 0 + x)) ≤ nm zs + x.natAbs
  | [], k => by simp [nm]
  | z :: zs, 0 => by
    show (z + x).natAbs + nm zs ≤ z.natAbs + nm zs + x.natAbs
    omega
  | z :: zs, k + 1 => by
    show z.natAbs + nm (zs.set k (zs.getD k 0 + x)) ≤ z.natAbs + nm zs + x.natAbs
    have := nm_set x zs k
    omega
theorem ev_take_succ (t : Int) : ∀ (cs : List Int) (i : Nat), ev (cs.take (i + 1)) t = ev (cs.take i) t + cs.getD i 0 * t ^ i
  | [], i => by simp [ev]
  | c :: cs, 0 => by
    show c + t * ev (cs.take 0) t = 0 + c * t ^ 0
    rw [List.take_zero, Int.pow_zero]
    show c + t * 0 = _
    omega
  | c :: cs, i + 1 => by
    show c + t * ev (cs.take (i + 1)) t = c + t * ev (cs.take i) t + cs.getD i 0 * t ^ (i + 1)
    rw [ev_take_succ t cs i, Int.pow_succ]
    grind
theorem nm_take_succ : ∀ (cs : List Int) (i : Nat), nm (cs.take (i + 1)) = nm (cs.take i) + (cs.getD i 0).natAbs
  | [], i => by simp [nm]
  | c :: cs, 0 => by
    show c.natAbs + nm (cs.take 0) = 0 + c.natAbs
    rw [List.take_zero]
    show c.natAbs + 0 = _
    omega
  | c :: cs, i + 1 => by
    show c.natAbs + nm (cs.take (i + 1)) = c.natAbs + nm (cs.take i) + (cs.getD i 0).natAbs
    rw [nm_take_succ cs i]
    omega
theorem nm_get (cs : List Int) (i : Nat) : (cs.getD i 0).natAbs ≤ nm cs := by
  have := nm_take_succ cs i
  have := nm_take cs (i + 1)
  omega
theorem ev_zeros (t : Int) : ∀ n : Nat, ev (List.replicate n 0) t = 0
  | 0 => rfl
  | n + 1 => by
    show 0 + t * ev (List.replicate n 0) t = 0
    rw [ev_zeros t n]
    omega
theorem nm_zeros : ∀ n : Nat, nm (List.replicate n 0) = 0
  | 0 => rfl
  | n + 1 => by
    show (0 : Int).natAbs + nm (List.replicate n 0) = 0
    rw [nm_zeros n]
    rfl
structure Prod (cs ds zs : List Int) (i j : Nat) : Prop where
  len : zs.length = cs.length + ds.length
  val : ∀ t, ev zs t = ev (cs.take i) t * ev ds t + t ^ i * cs.getD i 0 * ev (ds.take j) t
  nm : nm zs ≤ nm (cs.take i) * nm ds + (cs.getD i 0).natAbs * nm (ds.take j)
theorem prod_step {cs ds zs : List Int} {i j : Nat} (h : Prod cs ds zs i j) (hi : i < cs.length) (hj : j < ds.length) : Prod cs ds (zs.set (i + j) (zs.getD (i + j) 0 + cs.getD i 0 * ds.getD j 0)) i (j + 1) where
  len := by rw [List.length_set]; exact h.len
  val := fun t => by
    rw [ev_set t _ zs (i + j) (by rw [h.len]; omega), h.val, ev_take_succ, Int.pow_add]
    grind
  nm := by
    have := nm_set (cs.getD i 0 * ds.getD j 0) zs (i + j)
    rw [Int.natAbs_mul] at this
    rw [nm_take_succ, Nat.mul_add]
    have := h.nm
    omega
theorem prod_next {cs ds zs : List Int} {i : Nat} (h : Prod cs ds zs i ds.length) : Prod cs ds zs (i + 1) 0 where
  len := h.len
  val := fun t => by
    rw [h.val, ev_take_succ, List.take_length]
    show _ = _ + _ * ev [] t
    unfold ev
    grind
  nm := by
    have := h.nm
    rw [nm_take_succ, List.take_length] at *
    rw [Nat.add_mul]
    omega
theorem prod_zero (cs ds : List Int) : Prod cs ds (List.replicate (cs.length + ds.length) 0) 0 0 where
  len := List.length_replicate ..
  val := fun t => by
    rw [ev_zeros]
    show 0 = ev [] t * ev ds t + t ^ 0 * cs.getD 0 0 * ev [] t
    unfold ev
    grind
  nm := by
    rw [nm_zeros]
    exact Nat.zero_le _
/-- the product of two rows -/
def pm : List Int → List Int → List Int
  | [], _ => []
  | a :: as, ds => addN (ds.map (a * ·)) (0 :: pm as ds) (as.length + ds.length + 1)
theorem pm_len : ∀ (cs ds : List Int), (pm cs ds).length ≤ cs.length + ds.length
  | [], ds => Nat.zero_le _
  | a :: as, ds => by
    unfold pm
    rw [addN_len, List.length_cons]
    omega
theorem ev_scale (a t : Int) : ∀ ds : List Int, ev (ds.map (a * ·)) t = a * ev ds t
  | [] => by simp [ev]
  | d :: ds => by
    show a * d + t * ev (ds.map (a * ·)) t = a * (d + t * ev ds t)
    rw [ev_scale a t ds]
    grind
theorem nm_scale (a : Int) : ∀ ds : List Int, nm (ds.map (a * ·)) = a.natAbs * nm ds
  | [] => by simp [nm]
  | d :: ds => by
    show (a * d).natAbs + nm (ds.map (a * ·)) = a.natAbs * (d.natAbs + nm ds)
    rw [nm_scale a ds, Int.natAbs_mul, Nat.mul_add]
theorem ev_pm (t : Int) : ∀ (cs ds : List Int), ev (pm cs ds) t = ev cs t * ev ds t
  | [], ds => by simp [pm, ev]
  | a :: as, ds => by
    unfold pm
    rw [ev_addN t _ _ _ (by rw [List.length_map]; omega) (by have := pm_len as ds; rw [List.length_cons]; omega), ev_scale]
    show a * ev ds t + (0 + t * ev (pm as ds) t) = (a + t * ev as t) * ev ds t
    rw [ev_pm t as ds]
    grind
theorem nm_pm : ∀ (cs ds : List Int), nm (pm cs ds) ≤ nm cs * nm ds
  | [], ds => Nat.zero_le _
  | a :: as, ds => by
    unfold pm
    refine Nat.le_trans (nm_addN _ _ _) ?_
    rw [nm_scale]
    show a.natAbs * nm ds + ((0 : Int).natAbs + nm (pm as ds)) ≤ (a.natAbs + nm as) * nm ds
    have := nm_pm as ds
    rw [Nat.add_mul]
    have : (0 : Int).natAbs = 0 := rfl
    omega
theorem trim_of {zs ys : List Int} (h : ∀ t, ev zs t = ev ys t) : trim zs = trim ys := ev_inj _ _ (trim_trimmed zs) (trim_trimmed ys) fun t _ => by rw [ev_trim, ev_trim, h]
theorem f_row_times (cs ds : List Int) {k k' : Nat} (h1 : cs.length ≤ 2 ^ 20) (h2 : ds.length ≤ 2 ^ 20) (n1 : nm cs ≤ 2 ^ k) (n2 : nm ds ≤ 2 ^ k') (hk : k + k' ≤ 2 ^ 20) : Does 2 3 [rowD cs, rowD ds] (rowD (trim (pm cs ds))) := by
  refine does_of (fn := fn3) rfl rfl fun n hn => ?_
  have hz : 2 ^ 22 < sizeLine := by decide
  rw [rowD_eq cs, rowD_eq ds]
  conv => whnf
  refine ⟨by show 1 ≤ sizeLine; decide, ?_⟩
  conv => whnf
  refine ⟨⟨by rw [map_len, map_len]; omega, by rw [map_len, map_len]; omega, by rw [map_len, map_len, ← Int.natCast_add, Int.toNat_natCast]; show 1 * _ ≤ _; omega⟩, ?_⟩
  rw [map_len, map_len, ← Int.natCast_add, rep_zero]
  conv => whnf
  refine ⟨⟨by rw [map_len]; omega, by rw [map_len]; omega⟩, ?_⟩
  rw [map_len, Int.toNat_natCast]
  refine for_rule (fun i ρ => ∃ zs s3 s4, Prod cs ds zs i 0 ∧ ρ = [.im (.tuple (cs.map .int)), .im (.tuple (ds.map .int)), .own (.list (zs.map .int)), s3, s4]) (fun i x ρ N hx hI hN => ?_) (fun ρ hI => ?_) ⟨_, _, _, prod_zero cs ds, by rw [List.map_replicate]; rfl⟩
  · obtain ⟨hi, rfl⟩ := rgD_at hx
    obtain ⟨zs, s3, s4, hp, rfl⟩ := hI
    rw [Int.zero_add]
    conv => whnf
    refine ⟨⟨by rw [map_len]; omega, by rw [map_len]; omega⟩, ?_⟩
    rw [map_len, Int.toNat_natCast]
    refine for_rule (fun j ρ => ∃ zs s4, Prod cs ds zs i j ∧ ρ = [.im (.tuple (cs.map .int)), .im (.tuple (ds.map .int)), .own (.list (zs.map .int)), .im (.int i), s4]) (fun j x ρ N' hx hI hN' => ?_) (fun ρ hI => ?_) ⟨_, _, hp, rfl⟩
    · obtain ⟨hj, rfl⟩ := rgD_at hx
      obtain ⟨zs, s4, hp, rfl⟩ := hI
      rw [Int.zero_add]
      have hl : i + j < zs.length := by rw [hp.len]; omega
      conv => whnf
      refine ⟨_, _, rfl, (by rw [← Int.natCast_add]; exact at_nat (getD_int zs _ hl)), ?_⟩
      conv => whnf
      refine ⟨_, _, rfl, at_nat (getD_int cs _ hi), ?_⟩
      conv => whnf
      refine ⟨_, _, rfl, at_nat (getD_int ds _ hj), ?_⟩
      conv => whnf
      refine ⟨mul_ok (Nat.le_trans (nm_get cs i) n1) (Nat.le_trans (nm_get ds j) n2) (by omega), ?_⟩
      conv => whnf
      refine ⟨_, _, rfl, rfl, ?_⟩
      conv => whnf
      refine ⟨_, i + j, rfl, (by rw [← Int.natCast_add, map_len]; exact ix_nat hl), ?_⟩
      refine hN' _ ⟨_, .im (.int j), prod_step hp hi hj, ?_⟩
      rw [List.map_set]
      rfl
    · obtain ⟨zs, s4, hp, rfl⟩ := hI
      rw [rgD_len] at hp
      exact hN _ ⟨zs, _, _, prod_next hp, rfl⟩
  · obtain ⟨zs, s3, s4, hp, rfl⟩ := hI
    rw [rgD_len] at hp
    conv => whnf
    refine ⟨_, f_trimmed (.inl rfl) n (by omega), ?_⟩
    conv => whnf
    refine congrArg Res.val (congrArg rowD (trim_of fun t => ?_))
    rw [ev_pm, hp.val, List.take_length, List.take_zero]
    show _ = _ + _ * (0 : Int)
    rw [Int.mul_zero, Int.add_zero]
theorem row_times {L k L' k' : Nat} {a b : D} {p q : Int → Int} (ha : Row L k a p) (hb : Row L' k' b q) (hL : L ≤ 2 ^ 20) (hL' : L' ≤ 2 ^ 20) (hk : k + k' ≤ 2 ^ 20) : ∃ d, Does 2 3 [a, b] d ∧ Row (L + L') (k + k') d fun t => p t * q t := by
  obtain ⟨cs, rfl, t1, l1, n1, v1⟩ := ha
  obtain ⟨ds, rfl, t2, l2, n2, v2⟩ := hb
  refine ⟨_, f_row_times cs ds (by omega) (by omega) n1 n2 hk, row_trim (Nat.le_trans (pm_len cs ds) (by omega)) ?_ fun t => ?_⟩
  · rw [Nat.pow_add]
    exact Nat.le_trans (nm_pm cs ds) (Nat.mul_le_mul n1 n2)
  · rw [ev_pm, v1, v2]
end T92
end

section
set_option maxRecDepth 100000
set_option maxHeartbeats 4000000
namespace T92
open PySem L2 Pe
/-! keys, rows as data -/
def kd (S : List Int) : D := .tuple (S.map .int)
theorem keys_ints (n : Nat) : ∀ S : List Int, keysN n (S.map .int) = true
  | [] => by cases n <;> rfl
  | s :: S => by
    rw [List.map_cons]
    unfold keysN
    rw [keys_ints n S]
    cases n <;> rfl
theorem kd_key (S : List Int) : isKey (kd S) = true := keys_ints 6 S
theorem eqv_ints : ∀ S T : List Int, PyData.eqvAll (S.map .int) (T.map .int) = decide (S = T)
  | [], [] => by simp [PyData.eqvAll]
  | [], t :: T => by simp [PyData.eqvAll]
  | s :: S, [] => by simp [PyData.eqvAll]
  | s :: S, t :: T => by
    have e := ev_int s t
    have e : PyData.eqv (.int s) (.int t) = decide (s = t) := e
    rw [List.map_cons, List.map_cons, PyData.eqvAll, eqv_ints S T, e]
    by_cases h : s = t <;> by_cases h' : S = T <;> simp [h, h']
theorem kd_eq (S T : List Int) : eqd (kd S) (kd T) = decide (S = T) := by
  show PyData.eqv (.tuple _) (.tuple _) = _
  rw [PyData.eqv]
  exact eqv_ints S T
theorem row_emp (cs : List Int) : eqd (rowD cs) (.tuple []) = decide (cs = []) := kd_eq cs []
theorem lay_ints : ∀ S : List Int, PyData.canLayAll0 (S.map .int) = true
  | [] => rfl
  | s :: S => by
    rw [List.map_cons]
    unfold PyData.canLayAll0
    rw [lay_ints S]
    rfl
theorem depth_ints : ∀ S : List Int, PyData.depthAll (S.map .int) = 0
  | [] => rfl
  | s :: S => by
    rw [List.map_cons]
    unfold PyData.depthAll
    rw [depth_ints S]
    rfl
theorem kd_ok (S : List Int) : okEq (kd S) := by
  unfold okEq SeqAt.shaped kd
  have e1 : (PyData.tuple (S.map .int)).canLay0 = true := by
    unfold PyData.canLay0
    exact lay_ints S
  have e2 : (PyData.tuple (S.map .int)).depth = 1 := by
    unfold PyData.depth
    rw [depth_ints]
  rw [e1, e2]
  rfl
theorem row_ok (cs : List Int) : okEq (rowD cs) := kd_ok cs
theorem emp_ok : okEq (.tuple []) := kd_ok []
theorem mem_ints (c : Int) (S : List Int) : memB (.int c) (S.map .int) = decide (c ∈ S) := by
  unfold memB
  induction S with
  | nil => simp
  | cons s S ih =>
    rw [List.map_cons, List.any_cons, ih]
    have e : eqd (.int s) (.int c) = decide (s = c) := ev_int s c
    rw [e]
    by_cases h : s = c
    · subst h; simp
    · by_cases h' : c ∈ S
      · simp [h']
      · have h'' : ¬ c = s := fun z => h z.symm
        simp [h, h', h'']
theorem memR_ints (c : Int) (S : List Int) : memR (.int c) (S.map .int) := ⟨shaped_int c, fun y hy => by
  obtain ⟨s, _, rfl⟩ := List.mem_map.mp hy
  exact shaped_int s⟩
theorem ints_of_map : ∀ S : List Int, intsOf (S.map .int) = some S
  | [] => rfl
  | s :: S => by
    rw [List.map_cons]
    unfold intsOf
    rw [ints_of_map S]
    rfl
theorem insI_len (x : Int) (S : List Int) : (insI x S).length = S.length + 1 := by
  induction S with
  | nil => rfl
  | cons s S ih =>
    unfold insI
    split
    · rfl
    · rw [List.length_cons, ih, List.length_cons]
theorem sortI_len (S : List Int) : (sortI S).length = S.length := by
  induction S with
  | nil => rfl
  | cons s S ih =>
    unfold sortI
    rw [insI_len, ih, List.length_cons]
/-! the sign -/
def sgE (S : List Int) (c : Int) : List Int := if (S.filter fun o => decide (c < o)).length % 2 = 1 then [-1] else [1]
theorem f_sign (S : List Int) (c : Int) (hS : S.length ≤ 2 ^ 20) : Does 1 8 [kd S, .int c] (rowD (sgE S c)) := by
  refine does_of (fn := fn8) rfl rfl fun n hn => ?_
  unfold kd
  conv => whnf
  refine comp_rule (fun i acc ρ => acc = ((S.take i).filter fun o => decide (c < o)).map .int ∧ ∃ s, ρ = [.im (.tuple (S.map .int)), .im (.int c), s]) (fun i x acc ρ N hx hI hN => ?_) (fun acc ρ hI => ?_) ⟨rfl, _, rfl⟩
  · obtain ⟨rfl, s, rfl⟩ := hI
    rw [List.getElem?_map] at hx
    obtain ⟨o, ho, rfl⟩ := Option.map_eq_some_iff.mp hx
    have hi := (List.getElem?_eq_some_iff.mp ho).1
    have ht : S.take (i + 1) = S.take i ++ [o] := by rw [List.take_succ, ho]; rfl
    conv => whnf
    refine ⟨_, _, rfl, rfl, ?_⟩
    conv => whnf
    refine ⟨_, rfl, ?_⟩
    by_cases h : c < o
    · refine ifT (decide_eq_true h) ?_
      conv => whnf
      refine ⟨?_, hN _ _ ⟨?_, _, rfl⟩⟩
      · rw [map_len]
        have e1 := List.length_filter_le (fun o => decide (c < o)) (S.take i)
        rw [List.length_take] at e1
        have e2 : 2 ^ 21 < sizeLine := by decide
        show (List.filter (fun o => decide (c < o)) (List.take i S)).length < sizeLine
        omega
      · rw [ht, List.filter_append, List.map_append]
        simp [h]
    · refine ifF (decide_eq_false h) ?_
      conv => whnf
      refine hN _ _ ⟨?_, _, rfl⟩
      rw [ht, List.filter_append, List.map_append]
      simp [h]
  · obtain ⟨rfl, s, rfl⟩ := hI
    rw [map_len, List.take_length]
    conv => whnf
    refine ⟨by decide, ?_⟩
    conv => whnf
    refine ⟨shaped_int _, shaped_int _, ?_⟩
    conv => whnf
    refine ⟨_, rfl, ?_⟩
    rw [map_len, ev_int]
    generalize hq : (S.filter fun o => decide (c < o)).length = q
    have hm : ((q : Int)).fmod 2 = ((q % 2 : Nat) : Int) := by
      rw [Int.fmod_eq_emod_of_nonneg _ (by decide)]
      omega
    rw [hm]
    unfold sgE
    rw [hq]
    by_cases h : q % 2 = 1
    · refine ifT (by rw [decide_eq_true_eq, h]; rfl) ?_
      rw [if_pos h]
      conv => whnf
      rfl
    · refine ifF (by rw [decide_eq_false_iff_not]; omega) ?_
      rw [if_neg h]
      conv => whnf
      rfl
end T92
end

section
set_option maxRecDepth 100000
set_option maxHeartbeats 4000000
namespace T92
open PySem L2 Pe
/-! a dict of determinants: columns and rows -/
abbrev EL := List (List Int × List Int)
def dicD (E : EL) : D := .dict (E.map fun e => (kd e.1, rowD e.2))
def lookE : EL → List Int → List Int
  | [], _ => []
  | e :: E, S => if e.1 = S then e.2 else lookE E S
def hasE (E : EL) (S : List Int) : Bool := E.any fun e => decide (e.1 = S)
def putE (E : EL) (S cs : List Int) : EL := if hasE E S = true then E.map fun e => if e.1 = S then (e.1, cs) else e else E ++ [(S, cs)]
theorem getD_E (E : EL) (S : List Int) : (getD (E.map fun e => (kd e.1, rowD e.2)) (kd S)).getD (.tuple []) = rowD (lookE E S) := by
  unfold getD
  induction E with
  | nil => rfl
  | cons e E ih =>
    rw [List.map_cons, List.find?_cons]
    have q : eqd (kd e.1, rowD e.2).1 (kd S) = decide (e.1 = S) := kd_eq e.1 S
    rw [q]
    unfold lookE
    by_cases h : e.1 = S
    · rw [if_pos h, decide_eq_true h]
      rfl
    · rw [if_neg h, decide_eq_false h]
      exact ih
theorem putD_E (E : EL) (S cs : List Int) : putD (E.map fun e => (kd e.1, rowD e.2)) (kd S) (rowD cs) = (putE E S cs).map fun e => (kd e.1, rowD e.2) := by
  have hq : ∀ e : List Int × List Int, eqd (kd e.1, rowD e.2).1 (kd S) = decide (e.1 = S) := fun e => kd_eq e.1 S
  have ha : ((E.map fun e => (kd e.1, rowD e.2)).any fun p => eqd p.1 (kd S)) = hasE E S := by
    unfold hasE
    rw [List.any_map]
    congr 1
    funext e
    exact hq e
  unfold putD putE
  rw [ha]
  by_cases h : hasE E S = true
  · rw [if_pos h, if_pos h, List.map_map, List.map_map]
    apply List.map_congr_left
    intro e _
    show (if eqd (kd e.1, rowD e.2).1 (kd S) = true then ((kd e.1, rowD e.2).1, rowD cs) else (kd e.1, rowD e.2)) = _
    rw [hq e]
    by_cases h' : e.1 = S
    · simp [h']
    · simp [h']
  · rw [if_neg h, if_neg h, List.map_append]
    rfl
/-! its value on a test -/
def PP (E : EL) (φ : List Int → Int) (t : Int) : Int := match E with
  | [] => 0
  | e :: E => ev e.2 t * φ e.1 + PP E φ t
theorem PP_nil (φ : List Int → Int) (t : Int) : PP [] φ t = 0 := rfl
theorem PP_cons (e : List Int × List Int) (E : EL) (φ : List Int → Int) (t : Int) : PP (e :: E) φ t = ev e.2 t * φ e.1 + PP E φ t := rfl
theorem PP_app (E E' : EL) (φ : List Int → Int) (t : Int) : PP (E ++ E') φ t = PP E φ t + PP E' φ t := by
  induction E with
  | nil => simp [PP_nil]
  | cons e E ih =>
    rw [List.cons_append, PP_cons, PP_cons, ih]
    omega
def NoE (E : EL) : Prop := (E.map (·.1)).Nodup
theorem has_mem (E : EL) (S : List Int) : hasE E S = true ↔ S ∈ E.map (·.1) := by
  unfold hasE
  rw [List.any_eq_true, List.mem_map]
  constructor
  · rintro ⟨e, h1, h2⟩
    exact ⟨e, h1, of_decide_eq_true h2⟩
  · rintro ⟨e, h1, h2⟩
    exact ⟨e, h1, decide_eq_true h2⟩
theorem look_no (E : EL) (S : List Int) (h : S ∉ E.map (·.1)) : lookE E S = [] := by
  induction E with
  | nil => rfl
  | cons e E ih =>
    rw [List.map_cons, List.mem_cons, not_or] at h
    unfold lookE
    rw [if_neg fun z => h.1 z.symm]
    exact ih h.2
theorem map_no (E : EL) (S cs : List Int) (h : S ∉ E.map (·.1)) : (E.map fun e => if e.1 = S then (e.1, cs) else e) = E := by
  induction E with
  | nil => rfl
  | cons e E ih =>
    rw [List.map_cons, List.mem_cons, not_or] at h
    rw [List.map_cons, ih h.2, if_neg fun z => h.1 z.symm]
theorem PP_put {E : EL} (hn : NoE E) (S cs : List Int) (φ : List Int → Int) (t : Int) : PP (putE E S cs) φ t = PP E φ t + (ev cs t - ev (lookE E S) t) * φ S := by
  unfold putE
  by_cases h : hasE E S = true
  · rw [if_pos h]
    have hm := (has_mem E S).mp h
    clear h
    induction E with
    | nil => cases hm
    | cons e E ih =>
      unfold NoE at hn
      rw [List.map_cons, List.nodup_cons] at hn
      rw [List.map_cons, PP_cons, PP_cons]
      unfold lookE
      by_cases h : e.1 = S
      · rw [if_pos h, if_pos h, map_no E S cs (by rw [← h]; exact hn.1), h]
        grind
      · rw [if_neg h, if_neg h, ih hn.2 ((List.mem_cons.mp hm).resolve_left fun z => h z.symm)]
        omega
  · rw [if_neg h, PP_app, PP_cons, PP_nil, look_no E S fun z => h ((has_mem E S).mpr z)]
    show PP E φ t + (ev cs t * φ S + 0) = PP E φ t + (ev cs t - 0) * φ S
    grind
theorem no_put {E : EL} (hn : NoE E) (S cs : List Int) : NoE (putE E S cs) := by
  unfold NoE putE
  by_cases h : hasE E S = true
  · rw [if_pos h, List.map_map]
    have e : (E.map ((fun x => x.1) ∘ fun e => if e.1 = S then (e.1, cs) else e)) = E.map (·.1) := by
      apply List.map_congr_left
      intro e _
      show (if e.1 = S then (e.1, cs) else e).1 = e.1
      split <;> rfl
    rw [e]
    exact hn
  · rw [if_neg h, List.map_append]
    refine List.nodup_append.mpr ⟨hn, by simp, fun a ha b hb e => ?_⟩
    have hb' : b = S := by simpa using hb
    exact h ((has_mem E S).mpr (by rw [← hb', ← e]; exact ha))
/-! sizes -/
def NN : EL → Nat
  | [] => 0
  | e :: E => nm e.2 + NN E
theorem NN_app (E E' : EL) : NN (E ++ E') = NN E + NN E' := by
  induction E with
  | nil => simp [NN]
  | cons e E ih =>
    rw [List.cons_append]
    show nm e.2 + NN (E ++ E') = nm e.2 + NN E + NN E'
    rw [ih]
    omega
theorem nm_look (E : EL) (S : List Int) : nm (lookE E S) ≤ NN E := by
  induction E with
  | nil => exact Nat.le_refl _
  | cons e E ih =>
    unfold lookE
    show _ ≤ nm e.2 + NN E
    split <;> omega
theorem NN_put {E : EL} (hn : NoE E) (S cs : List Int) {x : Nat} (hx : nm cs ≤ nm (lookE E S) + x) : NN (putE E S cs) ≤ NN E + x := by
  unfold putE
  by_cases h : hasE E S = true
  · rw [if_pos h]
    have hm := (has_mem E S).mp h
    clear h
    induction E with
    | nil => cases hm
    | cons e E ih =>
      unfold NoE at hn
      rw [List.map_cons, List.nodup_cons] at hn
      unfold lookE at hx
      rw [List.map_cons]
      show nm (if e.1 = S then (e.1, cs) else e).2 + NN _ ≤ nm e.2 + NN E + x
      by_cases h : e.1 = S
      · rw [if_pos h] at hx ⊢
        rw [map_no E S cs (by rw [← h]; exact hn.1)]
        show nm cs + NN E ≤ _
        omega
      · rw [if_neg h] at hx ⊢
        have := ih hn.2 hx ((List.mem_cons.mp hm).resolve_left fun z => h z.symm)
        omega
  · rw [if_neg h, NN_app]
    rw [look_no E S fun z => h ((has_mem E S).mpr z)] at hx
    have hx : nm cs ≤ 0 + x := hx
    show NN E + (nm cs + 0) ≤ _
    omega
/-- all rows short, all keys short -/
def Sh (L m : Nat) (E : EL) : Prop := ∀ e ∈ E, e.2.length ≤ L ∧ e.1.length = m ∧ Trimmed e.2
theorem look_mem {E : EL} {S : List Int} (h : lookE E S ≠ []) : ∃ e ∈ E, e.2 = lookE E S := by
  induction E with
  | nil => exact absurd rfl h
  | cons e E ih =>
    unfold lookE at h ⊢
    split at h
    · rename_i hh
      rw [if_pos hh]
      exact ⟨e, List.mem_cons_self, rfl⟩
    · rename_i hh
      rw [if_neg hh]
      obtain ⟨e', h1, h2⟩ := ih h
      exact ⟨e', List.mem_cons_of_mem _ h1, h2⟩
theorem look_len {L m : Nat} {E : EL} (h : Sh L m E) (S : List Int) : (lookE E S).length ≤ L := by
  by_cases hz : lookE E S = []
  · rw [hz]
    exact Nat.zero_le _
  · obtain ⟨e, h1, h2⟩ := look_mem hz
    rw [← h2]
    exact (h e h1).1
theorem sh_put {L m : Nat} {E : EL} (h : Sh L m E) {S cs : List Int} (hS : S.length = m) (hc : cs.length ≤ L) (ht : Trimmed cs) : Sh L m (putE E S cs) := by
  intro e he
  unfold putE at he
  split at he
  · obtain ⟨e', h1, h2⟩ := List.mem_map.mp he
    split at h2
    · rename_i hh
      rw [← h2]
      exact ⟨hc, by rw [hh]; exact hS, ht⟩
    · rw [← h2]
      exact h e' h1
  · rcases List.mem_append.mp he with he | he
    · exact h e he
    · have : e = (S, cs) := by simpa using he
      rw [this]
      exact ⟨hc, hS, ht⟩
theorem put_len (E : EL) (S cs : List Int) : (putE E S cs).length ≤ E.length + 1 := by
  unfold putE
  split
  · rw [List.length_map]
    omega
  · rw [List.length_append]
    simp
/-! a line put to it -/
def sumR (a b : List Int) : List Int := trim (addN a b (max a.length b.length))
def prodR (a b : List Int) : List Int := trim (pm a b)
def termE (S total l : List Int) (c : Int) : List Int := prodR (prodR total l) (sgE S c)
def colE (S total : List Int) (ls : List (List Int)) (E : EL) (c : Nat) : EL :=
  if (c : Int) ∈ S ∨ ls.getD c [] = [] then E else putE E (sortI (S ++ [(c : Int)])) (sumR (lookE E (sortI (S ++ [(c : Int)]))) (termE S total (ls.getD c []) c))
def entE (ls : List (List Int)) (E : EL) (e : List Int × List Int) : EL := (List.range ls.length).foldl (colE e.1 e.2 ls) E
def lineE (E : EL) (ls : List (List Int)) : EL := E.foldl (entE ls) []
end T92
end

section
set_option maxRecDepth 100000
set_option maxHeartbeats 4000000
namespace T92
open PySem L2 Pe
/-! what a column adds -/
def sg (S : List Int) (c : Int) : Int := if (S.filter fun o => decide (c < o)).length % 2 = 1 then -1 else 1
theorem ev_sg (S : List Int) (c t : Int) : ev (sgE S c) t = sg S c := by
  unfold sgE sg
  split <;> simp [ev]
theorem nm_sg (S : List Int) (c : Int) : nm (sgE S c) = 1 := by
  unfold sgE
  split <;> rfl
theorem len_sg (S : List Int) (c : Int) : (sgE S c).length = 1 := by
  unfold sgE
  split <;> rfl
theorem ev_sumR (a b : List Int) (t : Int) : ev (sumR a b) t = ev a t + ev b t := by
  unfold sumR
  rw [ev_trim, ev_addN t _ a b (by omega) (by omega)]
theorem ev_prodR (a b : List Int) (t : Int) : ev (prodR a b) t = ev a t * ev b t := by
  unfold prodR
  rw [ev_trim, ev_pm]
theorem nm_sumR (a b : List Int) : nm (sumR a b) ≤ nm a + nm b := Nat.le_trans (trim_nm _) (nm_addN _ a b)
theorem nm_prodR (a b : List Int) : nm (prodR a b) ≤ nm a * nm b := Nat.le_trans (trim_nm _) (nm_pm a b)
theorem len_sumR (a b : List Int) : (sumR a b).length ≤ max a.length b.length := Nat.le_trans (trim_len _) (by rw [addN_len]; exact Nat.le_refl _)
theorem len_prodR (a b : List Int) : (prodR a b).length ≤ a.length + b.length := Nat.le_trans (trim_len _) (pm_len a b)
theorem nm_term (S total l : List Int) (c : Int) : nm (termE S total l c) ≤ nm total * nm l := by
  refine Nat.le_trans (nm_prodR _ _) ?_
  rw [nm_sg, Nat.mul_one]
  exact nm_prodR _ _
theorem len_term (S total l : List Int) (c : Int) : (termE S total l c).length ≤ total.length + l.length + 1 := by
  have h1 := len_prodR (prodR total l) (sgE S c)
  have h2 := len_prodR total l
  rw [len_sg] at h1
  unfold termE
  omega
theorem ev_term (S total l : List Int) (c t : Int) : ev (termE S total l c) t = ev total t * ev l t * sg S c := by
  unfold termE
  rw [ev_prodR, ev_prodR, ev_sg]
structure Fine (L m B len : Nat) (E : EL) : Prop where
  no : NoE E
  sh : Sh L m E
  nn : NN E ≤ B
  len : E.length ≤ len
theorem Fine.mono {L m B len L' B' len' : Nat} {E : EL} (h : Fine L m B len E) (hL : L ≤ L') (hB : B ≤ B') (hl : len ≤ len') : Fine L' m B' len' E :=
  ⟨h.no, fun e he => ⟨Nat.le_trans (h.sh e he).1 hL, (h.sh e he).2⟩, Nat.le_trans h.nn hB, Nat.le_trans h.len hl⟩
theorem fine_nil {L m : Nat} : Fine L m 0 0 [] := ⟨List.nodup_nil, (fun e h => by cases h), Nat.le_refl _, Nat.le_refl _⟩
/-- what a column takes a test to -/
def colF (S : List Int) (ls : List (List Int)) (φ : List Int → Int) (t : Int) (c : Nat) : Int := if (c : Int) ∈ S then 0 else ev (ls.getD c []) t * sg S c * φ (sortI (S ++ [(c : Int)]))
theorem col_fine {L m B len : Nat} {E : EL} {S total : List Int} {ls : List (List Int)} {M Le : Nat} (h : Fine L (m + 1) B len E) (hS : S.length = m) (hM : ∀ l ∈ ls, nm l ≤ M ∧ l.length ≤ Le) (hL : total.length + Le + 1 ≤ L) (c : Nat) :
    Fine L (m + 1) (B + nm total * M) (len + 1) (colE S total ls E c) := by
  have hl : nm (ls.getD c []) ≤ M ∧ (ls.getD c []).length ≤ Le := by
    rw [List.getD_eq_getElem?_getD]
    cases q : ls[c]? with
    | none => exact ⟨Nat.zero_le _, Nat.zero_le _⟩
    | some l => exact hM l (List.mem_of_getElem? q)
  unfold colE
  split
  · exact h.mono (Nat.le_refl _) (Nat.le_add_right _ _) (Nat.le_succ _)
  · have t1 := nm_term S total (ls.getD c []) c
    have t2 := len_term S total (ls.getD c []) c
    have t3 : nm total * nm (ls.getD c []) ≤ nm total * M := Nat.mul_le_mul_left _ hl.1
    refine ⟨no_put h.no _ _, sh_put h.sh ?_ ?_ (trim_trimmed _), Nat.le_trans (NN_put h.no _ _ (x := nm total * M) ?_) (Nat.add_le_add_right h.nn _), Nat.le_trans (put_len _ _ _) (Nat.succ_le_succ h.len)⟩
    · rw [sortI_len, List.length_append, hS]
      rfl
    · have := len_sumR (lookE E (sortI (S ++ [(c : Int)]))) (termE S total (ls.getD c []) c)
      have := look_len h.sh (sortI (S ++ [(c : Int)]))
      omega
    · have := nm_sumR (lookE E (sortI (S ++ [(c : Int)]))) (termE S total (ls.getD c []) c)
      omega
theorem col_val {L m B len : Nat} {E : EL} {S total : List Int} {ls : List (List Int)} (h : Fine L m B len E) (c : Nat) (φ : List Int → Int) (t : Int) : PP (colE S total ls E c) φ t = PP E φ t + ev total t * colF S ls φ t c := by
  unfold colE colF
  by_cases h1 : (c : Int) ∈ S
  · rw [if_pos (.inl h1), if_pos h1]
    simp
  · rw [if_neg h1]
    by_cases h2 : ls.getD c [] = []
    · rw [if_pos (.inr h2), h2]
      show _ = _ + _ * (0 * _ * _)
      simp
    · rw [if_neg (by rintro (z | z); exact h1 z; exact h2 z), PP_put h.no, ev_sumR, ev_term]
      grind
def sumN (f : Nat → Int) : Nat → Int
  | 0 => 0
  | n + 1 => sumN f n + f n
theorem cols_fine {L m B len : Nat} {E : EL} {S total : List Int} {ls : List (List Int)} {M Le : Nat} (h : Fine L (m + 1) B len E) (hS : S.length = m) (hM : ∀ l ∈ ls, nm l ≤ M ∧ l.length ≤ Le) (hL : total.length + Le + 1 ≤ L) : ∀ c : Nat,
    Fine L (m + 1) (B + nm total * M * c) (len + c) ((List.range c).foldl (colE S total ls) E) ∧ ∀ φ t, PP ((List.range c).foldl (colE S total ls) E) φ t = PP E φ t + ev total t * sumN (colF S ls φ t) c
  | 0 => ⟨by simpa using h, fun φ t => by simp [sumN]⟩
  | c + 1 => by
    obtain ⟨h1, h2⟩ := cols_fine h hS hM hL c
    rw [List.range_succ, List.foldl_append]
    show Fine _ _ _ _ (colE S total ls ((List.range c).foldl (colE S total ls) E) c) ∧ ∀ φ t, PP (colE S total ls ((List.range c).foldl (colE S total ls) E) c) φ t = _
    refine ⟨(col_fine h1 hS hM hL c).mono (Nat.le_refl _) (by rw [Nat.mul_add]; omega) (by omega), fun φ t => ?_⟩
    rw [col_val h1 c φ t, h2]
    show _ = _ + _ * (sumN (colF S ls φ t) c + colF S ls φ t c)
    grind
/-- a line takes a test to -/
def lineF (ls : List (List Int)) (φ : List Int → Int) (t : Int) (S : List Int) : Int := sumN (colF S ls φ t) ls.length
theorem ents_fine {L m B len : Nat} {E : EL} {ls : List (List Int)} {M Le L' : Nat} (h : Fine L m B len E) (hM : ∀ l ∈ ls, nm l ≤ M ∧ l.length ≤ Le) (hL : L + Le + 1 ≤ L') : ∀ i : Nat,
    Fine L' (m + 1) (NN (E.take i) * (M * ls.length)) (i * ls.length) ((E.take i).foldl (entE ls) []) ∧ ∀ φ t, PP ((E.take i).foldl (entE ls) []) φ t = PP (E.take i) (lineF ls φ t) t
  | 0 => ⟨by rw [List.take_zero]; show Fine _ _ (0 * _) (0 * _) []; rw [Nat.zero_mul, Nat.zero_mul]; exact fine_nil, fun φ t => by rw [List.take_zero]; rfl⟩
  | i + 1 => by
    obtain ⟨h1, h2⟩ := ents_fine h hM hL i
    cases q : E[i]? with
    | none =>
      have hq : E.length ≤ i := List.getElem?_eq_none_iff.mp q
      have e : E.take (i + 1) = E.take i := by rw [List.take_of_length_le hq, List.take_of_length_le (by omega)]
      rw [e]
      exact ⟨h1.mono (Nat.le_refl _) (Nat.le_refl _) (by rw [Nat.add_mul]; omega), h2⟩
    | some e =>
      have he : e ∈ E := List.mem_of_getElem? q
      have ht : E.take (i + 1) = E.take i ++ [e] := by rw [List.take_succ, q]; rfl
      have hs := h.sh e he
      obtain ⟨z1, z2⟩ := cols_fine (total := e.2) h1 hs.2.1 hM (by omega) ls.length
      rw [ht, List.foldl_append]
      show Fine _ _ _ _ ((List.range ls.length).foldl (colE e.1 e.2 ls) ((E.take i).foldl (entE ls) [])) ∧ ∀ φ t, PP ((List.range ls.length).foldl (colE e.1 e.2 ls) ((E.take i).foldl (entE ls) [])) φ t = _
      refine ⟨z1.mono (Nat.le_refl _) ?_ (by rw [Nat.add_mul]; omega), fun φ t => ?_⟩
      · rw [NN_app]
        show _ ≤ (NN (E.take i) + (nm e.2 + 0)) * _
        rw [Nat.add_zero, Nat.add_mul, Nat.mul_assoc]
        exact Nat.le_refl _
      · rw [z2, h2, PP_app, PP_cons, PP_nil]
        unfold lineF
        omega
theorem line_fine {L m B len : Nat} {E : EL} {ls : List (List Int)} {M Le L' : Nat} (h : Fine L m B len E) (hM : ∀ l ∈ ls, nm l ≤ M ∧ l.length ≤ Le) (hL : L + Le + 1 ≤ L') :
    Fine L' (m + 1) (B * (M * ls.length)) (len * ls.length) (lineE E ls) ∧ ∀ φ t, PP (lineE E ls) φ t = PP E (lineF ls φ t) t := by
  obtain ⟨h1, h2⟩ := ents_fine h hM hL E.length
  rw [List.take_length] at h1 h2
  exact ⟨h1.mono (Nat.le_refl _) (Nat.mul_le_mul_right _ h.nn) (Nat.mul_le_mul_right _ h.len), h2⟩
end T92
end

section
set_option maxRecDepth 100000
set_option maxHeartbeats 4000000
namespace T92
open PySem L2 Pe
theorem at_rows {ls : List (List Int)} {c : Nat} (h : c < ls.length) : (ls.map rowD)[c]? = some (rowD (ls.getD c [])) := by
  rw [List.getElem?_map, List.getD_eq_getElem?_getD, List.getElem?_eq_getElem h]
  rfl
theorem f_with_line {L m B len Le M k1 k2 : Nat} {E : EL} {ls : List (List Int)} (h : Fine L m B len E) (hM : ∀ l ∈ ls, nm l ≤ M ∧ l.length ≤ Le) (hL : L + Le ≤ 2 ^ 18) (hB : B ≤ 2 ^ k1) (hM2 : M ≤ 2 ^ k2) (hk : k1 + k2 ≤ 2 ^ 19)
    (hn : ls.length ≤ 2 ^ 10) (hlen : len * ls.length ≤ 2 ^ 20) (hm : m + 1 < 64) : Does 3 9 [dicD E, .list (ls.map rowD)] (dicD (lineE E ls)) := by
  refine does_of (fn := fn9) rfl rfl fun n hn' => ?_
  have big : 2 ^ 22 < sizeLine := by decide
  have lenM : (ls.map rowD).length = ls.length := List.length_map ..
  conv => whnf
  refine ⟨⟨rfl, by decide⟩, ?_⟩
  conv => whnf
  refine for_rule (fun i ρ => ∃ s3 s4 s5 s6 s7, ρ = [.im (dicD E), .im (.list (ls.map rowD)), .own (dicD ((E.take i).foldl (entE ls) [])), s3, s4, s5, s6, s7]) (fun i x ρ N hx hI hN => ?_) (fun ρ hI => ?_) ⟨_, _, _, _, _, rfl⟩
  · obtain ⟨s3, s4, s5, s6, s7, rfl⟩ := hI
    rw [List.map_map, List.getElem?_map] at hx
    obtain ⟨e, he, rfl⟩ := Option.map_eq_some_iff.mp hx
    have hi := (List.getElem?_eq_some_iff.mp he).1
    have hs := h.sh e (List.mem_of_getElem? he)
    have het : E.take (i + 1) = E.take i ++ [e] := by rw [List.take_succ, he]; rfl
    have hnm : nm e.2 ≤ 2 ^ k1 := by
      have q : NN (E.take i ++ [e]) ≤ NN E := by
        rw [← het]
        have : NN E = NN (E.take (i + 1)) + NN (E.drop (i + 1)) := by rw [← NN_app, List.take_append_drop]
        omega
      rw [NN_app] at q
      have q : NN (E.take i) + (nm e.2 + 0) ≤ NN E := q
      have := h.nn
      omega
    obtain ⟨g1, -⟩ := ents_fine (L' := L + Le + 1) h hM (Nat.le_refl _) i
    conv => whnf
    refine ⟨⟨by rw [lenM]; omega, by rw [lenM]; omega⟩, ?_⟩
    rw [lenM, Int.toNat_natCast]
    refine for_rule (fun c ρ => ∃ s5 s6 s7, ρ = [.im (dicD E), .im (.list (ls.map rowD)), .own (dicD ((List.range c).foldl (colE e.1 e.2 ls) ((E.take i).foldl (entE ls) []))), .im (.tuple (e.1.map .int)), .im (rowD e.2), s5, s6, s7]) (fun c x ρ N' hx hI hN' => ?_) (fun ρ hI => ?_) ⟨_, _, _, rfl⟩
    · obtain ⟨hc, rfl⟩ := rgD_at hx
      obtain ⟨s5, s6, s7, rfl⟩ := hI
      rw [Int.zero_add]
      obtain ⟨g2, -⟩ := cols_fine (total := e.2) g1 hs.2.1 hM (by omega) c
      have hlc := hM (ls.getD c []) (by
        rw [List.getD_eq_getElem?_getD, List.getElem?_eq_getElem hc]
        exact List.getElem_mem hc)
      have next : colE e.1 e.2 ls ((List.range c).foldl (colE e.1 e.2 ls) ((E.take i).foldl (entE ls) [])) c = (List.range (c + 1)).foldl (colE e.1 e.2 ls) ((E.take i).foldl (entE ls) []) := by
        rw [List.range_succ, List.foldl_append]
        rfl
      generalize (List.range c).foldl (colE e.1 e.2 ls) ((E.take i).foldl (entE ls) []) = E' at g2 next ⊢
      conv => whnf
      refine ⟨memR_ints c e.1, ?_⟩
      rw [mem_ints]
      conv => whnf
      refine ⟨_, rfl, ?_⟩
      by_cases h1 : (c : Int) ∈ e.1
      · refine ifF (by rw [decide_eq_true h1]; rfl) ?_
        conv => whnf
        refine ⟨_, rfl, ?_⟩
        refine ifF rfl ?_
        conv => whnf
        refine hN' _ ?_
        rw [← next]
        unfold colE
        rw [if_pos (.inl h1)]
        exact ⟨_, _, _, rfl⟩
      · refine ifT (by rw [decide_eq_false h1]; rfl) ?_
        conv => whnf
        refine ⟨_, _, rfl, at_nat (at_rows hc), ?_⟩
        conv => whnf
        refine ⟨by decide, ?_⟩
        conv => whnf
        refine ⟨row_ok _, emp_ok, ?_⟩
        rw [row_emp]
        conv => whnf
        refine ⟨_, rfl, ?_⟩
        by_cases h2 : ls.getD c [] = []
        · refine ifF (by rw [decide_eq_true h2]; rfl) ?_
          conv => whnf
          refine hN' _ ?_
          rw [← next]
          unfold colE
          rw [if_pos (.inr h2)]
          exact ⟨_, _, _, rfl⟩
        · refine ifT (by rw [decide_eq_false h2]; rfl) ?_
          have hS : (sortI (e.1 ++ [(c : Int)])).length = m + 1 := by
            rw [sortI_len, List.length_append, hs.2.1]
            rfl
          conv => whnf
          refine ⟨by show 1 ≤ sizeLine; decide, ?_⟩
          conv => whnf
          refine ⟨by rw [map_len, hs.2.1]; show m + 1 ≤ sizeLine; omega, ?_⟩
          conv => whnf
          refine ⟨e.1 ++ [(c : Int)], (by
            have := ints_of_map (e.1 ++ [(c : Int)])
            rw [List.map_append] at this
            exact this), by rw [List.length_append, hs.2.1]; show m + 1 < 64; exact hm, ?_⟩
          conv => whnf
          refine ⟨_, _, rfl, at_nat (at_rows hc), ?_⟩
          conv => whnf
          refine ⟨_, f_row_times e.2 (ls.getD c []) (k := k1) (k' := k2) (by omega) (by omega) hnm (by omega) (by omega) n (by omega), ?_⟩
          conv => whnf
          refine ⟨_, f_sign e.1 c (by omega) n (by omega), ?_⟩
          conv => whnf
          have p1 := nm_prodR e.2 (ls.getD c [])
          have p2 := len_prodR e.2 (ls.getD c [])
          refine ⟨_, f_row_times (prodR e.2 (ls.getD c [])) (sgE e.1 c) (k := k1 + k2) (k' := 0) (by omega) (by rw [len_sg]; decide) (by
            rw [Nat.pow_add]
            exact Nat.le_trans p1 (Nat.mul_le_mul hnm (by omega))) (by rw [nm_sg]; decide) (by omega) n (by omega), ?_⟩
          conv => whnf
          refine ⟨trivial, ?_⟩
          conv => whnf
          refine ⟨by decide, ?_⟩
          conv => whnf
          refine ⟨kd_key _, ?_⟩
          rw [show PyData.tuple ((sortI (e.1 ++ [(c : Int)])).map .int) = kd (sortI (e.1 ++ [(c : Int)])) from rfl, getD_E]
          conv => whnf
          have p3 := len_term e.1 e.2 (ls.getD c []) c
          have p4 := look_len g2.sh (sortI (e.1 ++ [(c : Int)]))
          refine ⟨_, f_row_plus (lookE E' (sortI (e.1 ++ [(c : Int)]))) (termE e.1 e.2 (ls.getD c []) c) (by omega) (by omega) n (by omega), ?_⟩
          conv => whnf
          have g3 := g2.len
          refine ⟨kd_key _, ?_, ?_⟩
          · rw [List.length_map]
            have : i * ls.length ≤ len * ls.length := Nat.mul_le_mul_right _ (by have := h.len; omega)
            omega
          · refine hN' _ ?_
            have e1 := putD_E E' (sortI (e.1 ++ [(c : Int)])) (sumR (lookE E' (sortI (e.1 ++ [(c : Int)]))) (termE e.1 e.2 (ls.getD c []) c))
            have e2 : dicD ((List.range (c + 1)).foldl (colE e.1 e.2 ls) ((E.take i).foldl (entE ls) [])) = .dict (putD (E'.map fun e => (kd e.1, rowD e.2)) (kd (sortI (e.1 ++ [(c : Int)]))) (rowD (sumR (lookE E' (sortI (e.1 ++ [(c : Int)]))) (termE e.1 e.2 (ls.getD c []) c)))) := by
              rw [e1, ← next]
              unfold colE
              rw [if_neg (by rintro (z | z); exact h1 z; exact h2 z)]
              rfl
            rw [e2]
            exact ⟨_, _, _, rfl⟩
    · obtain ⟨s5, s6, s7, rfl⟩ := hI
      rw [rgD_len]
      refine hN _ ?_
      rw [het, List.foldl_append]
      exact ⟨_, _, _, _, _, rfl⟩
  · obtain ⟨s3, s4, s5, s6, s7, rfl⟩ := hI
    rw [List.length_map, List.length_map, List.take_length]
    conv => whnf
    rfl
end T92
end

section
set_option maxRecDepth 100000
set_option maxHeartbeats 4000000
namespace T92
open PySem L2 Pe
def delta (S T : List Int) : Int := if T = S then 1 else 0
theorem PP_delta {E : EL} (h : NoE E) (S : List Int) (t : Int) : PP E (delta S) t = ev (lookE E S) t := by
  induction E with
  | nil => rfl
  | cons e E ih =>
    unfold NoE at h
    rw [List.map_cons, List.nodup_cons] at h
    rw [PP_cons]
    unfold lookE delta
    by_cases hs : e.1 = S
    · rw [if_pos hs, if_pos hs]
      have z : ∀ (E : EL), S ∉ E.map (·.1) → PP E (delta S) t = 0 := by
        intro E
        induction E with
        | nil => intro _; rfl
        | cons e E ih2 =>
          intro hS
          rw [List.map_cons, List.mem_cons, not_or] at hS
          rw [PP_cons, ih2 hS.2]
          unfold delta
          rw [if_neg fun z => hS.1 z.symm]
          simp
      have := z E (by rw [← hs]; exact h.1)
      unfold delta at this
      rw [this]
      omega
    · rw [if_neg hs, if_neg hs]
      have := ih h.2
      unfold delta at this
      rw [this]
      omega
/-- the determinant of the lines' values, by tests -/
def dz (t : Int) (φ : List Int → Int) : List (List (List Int)) → List Int → Int
  | [] => φ
  | l :: ls => lineF l (dz t φ ls) t
def rng (n : Nat) : List Int := (List.range n).map fun i => ((i : Nat) : Int)
theorem rg_rng (n : Nat) : Pe.rgD n 0 = (rng n).map .int := by
  unfold Pe.rgD rng
  rw [List.map_map]
  apply List.map_congr_left
  intro i _
  show PyData.int (0 + _) = PyData.int _
  rw [Int.zero_add]
def E0 : EL := [([], [1])]
def runE (Ls : List (List (List Int))) : EL := Ls.foldl lineE E0
structure TabOk (Le ke : Nat) (Ls : List (List (List Int))) : Prop where
  n : Ls.length ≤ 6
  wide : ∀ ls ∈ Ls, ls.length ≤ 6
  ent : ∀ ls ∈ Ls, ∀ l ∈ ls, nm l ≤ 2 ^ ke ∧ l.length ≤ Le
theorem e0_fine : Fine 1 0 1 1 E0 := ⟨by simp [NoE, E0], fun e he => by
  have : e = ([], [1]) := by simpa [E0] using he
  rw [this]
  exact ⟨Nat.le_refl _, rfl, fun e h => by
    have : e = 0 := by simpa using h.symm
    rw [this]
    decide⟩, by decide, by decide⟩
theorem run_fine {Le ke : Nat} {Ls : List (List (List Int))} (h : TabOk Le ke Ls) : ∀ i, i ≤ Ls.length → Fine (1 + i * (Le + 1)) i (2 ^ (i * (ke + 3))) (6 ^ i) (runE (Ls.take i)) ∧ ∀ t φ, PP (runE (Ls.take i)) φ t = PP E0 (dz t φ (Ls.take i)) t
  | 0, _ => by
    rw [List.take_zero]
    exact ⟨e0_fine.mono (by omega) (by simp) (by simp), fun t φ => rfl⟩
  | i + 1, hi => by
    obtain ⟨h1, h2⟩ := run_fine h i (by omega)
    cases q : Ls[i]? with
    | none =>
      have := List.getElem?_eq_none_iff.mp q
      omega
    | some ls =>
      have hm := List.mem_of_getElem? q
      have ht : Ls.take (i + 1) = Ls.take i ++ [ls] := by rw [List.take_succ, q]; rfl
      obtain ⟨z1, z2⟩ := line_fine (L' := 1 + (i + 1) * (Le + 1)) h1 (h.ent ls hm) (by rw [Nat.add_mul]; omega)
      have hw := h.wide ls hm
      have er : runE (Ls.take (i + 1)) = lineE (runE (Ls.take i)) ls := by
        unfold runE
        rw [ht, List.foldl_append]
        rfl
      rw [er]
      refine ⟨z1.mono (Nat.le_refl _) ?_ ?_, fun t φ => ?_⟩
      · have e1 : 2 ^ ((i + 1) * (ke + 3)) = 2 ^ (i * (ke + 3)) * (2 ^ ke * 8) := by
          rw [Nat.add_mul, Nat.one_mul, Nat.pow_add, Nat.pow_add]
        rw [e1]
        exact Nat.mul_le_mul_left _ (Nat.mul_le_mul_left _ (by omega))
      · rw [Nat.pow_succ]
        exact Nat.mul_le_mul_left _ hw
      · rw [z2, h2, ht]
        have app : ∀ (As : List (List (List Int))), dz t φ (As ++ [ls]) = dz t (lineF ls φ t) As := by
          intro As
          induction As with
          | nil => rfl
          | cons a As ih =>
            show lineF a (dz t φ (As ++ [ls])) t = lineF a (dz t (lineF ls φ t) As) t
            rw [ih]
        rw [app]
def tabD (Ls : List (List (List Int))) : D := .list (Ls.map fun ls => .list (ls.map rowD))
def detE (Ls : List (List (List Int))) : List Int := lookE (runE Ls) (rng Ls.length)
theorem f_determinant {Le ke : Nat} {Ls : List (List (List Int))} (h : TabOk Le ke Ls) (hL : Le ≤ 2 ^ 10) (hk : ke ≤ 2 ^ 10) : Does 4 10 [tabD Ls] (rowD (detE Ls)) := by
  refine does_of (fn := fn10) rfl rfl fun n hn => ?_
  have big : 2 ^ 22 < sizeLine := by decide
  have lenT : (Ls.map fun ls => PyData.list (ls.map rowD)).length = Ls.length := List.length_map ..
  have hn6 := h.n
  conv => whnf
  refine ⟨by decide, ?_⟩
  conv => whnf
  refine ⟨⟨rfl, by decide⟩, ?_⟩
  conv => whnf
  have st0 : Pe.Slot.own (.dict (putsD [] [.tuple [], Gc 0])) = .own (dicD E0) := by
    have e : putsD [] [.tuple [], Gc 0] = putD (([] : EL).map fun e => (kd e.1, rowD e.2)) (kd []) (rowD [1]) := by
      show putD [] (.tuple []) (Gc 0) = _
      rw [rowD_eq]
      rfl
    rw [e, putD_E]
    rfl
  refine for_rule (fun i ρ => ∃ s s2, ρ = [.im (tabD Ls), s, s2] ∧ (s = .own (dicD (runE (Ls.take i))) ∨ s = .im (dicD (runE (Ls.take i))))) (fun i x ρ N hx hI hN => ?_) (fun ρ hI => ?_) ⟨_, _, rfl, .inl st0⟩
  · obtain ⟨s, s2, rfl, hs⟩ := hI
    rw [List.getElem?_map] at hx
    obtain ⟨ls, hls, rfl⟩ := Option.map_eq_some_iff.mp hx
    have hi := (List.getElem?_eq_some_iff.mp hls).1
    have hm := List.mem_of_getElem? hls
    have ht : Ls.take (i + 1) = Ls.take i ++ [ls] := by rw [List.take_succ, hls]; rfl
    obtain ⟨f1, -⟩ := run_fine h i (by omega)
    have hw := h.wide ls hm
    have er : runE (Ls.take (i + 1)) = lineE (runE (Ls.take i)) ls := by
      unfold runE
      rw [ht, List.foldl_append]
      rfl
    have l1 : i * (Le + 1) ≤ 6 * (2 ^ 10 + 1) := Nat.mul_le_mul (by omega) (by omega)
    have l2 : i * (ke + 3) ≤ 6 * (2 ^ 10 + 3) := Nat.mul_le_mul (by omega) (by omega)
    have l3 : 6 ^ i * ls.length ≤ 6 ^ 6 * 6 := Nat.mul_le_mul (Nat.pow_le_pow_right (by decide) (by omega)) hw
    have call := f_with_line f1 (h.ent ls hm) (k1 := i * (ke + 3)) (k2 := ke) (by omega) (Nat.le_refl _) (Nat.le_refl _) (by omega) (by omega) (by
      refine Nat.le_trans l3 (by decide)) (by omega)
    rcases hs with rfl | rfl <;>
    · conv => whnf
      refine ⟨_, call n (by omega), ?_⟩
      conv => whnf
      refine hN _ ⟨_, _, rfl, .inr ?_⟩
      rw [er]
      rfl
  · obtain ⟨s, s2, rfl, hs⟩ := hI
    rw [lenT, List.take_length] at hs
    rcases hs with rfl | rfl <;>
    · conv => whnf
      refine ⟨trivial, ?_⟩
      conv => whnf
      rw [lenT]
      refine ⟨⟨by omega, by omega⟩, ?_⟩
      conv => whnf
      refine ⟨by decide, ?_⟩
      rw [Int.toNat_natCast, rg_rng]
      conv => whnf
      refine ⟨kd_key _, ?_⟩
      rw [show PyData.tuple ((rng Ls.length).map .int) = kd (rng Ls.length) from rfl, getD_E]
      conv => whnf
      rfl
theorem detE_row {Le ke : Nat} {Ls : List (List (List Int))} (h : TabOk Le ke Ls) : Trimmed (detE Ls) ∧ (detE Ls).length ≤ 1 + 6 * (Le + 1) ∧ nm (detE Ls) ≤ 2 ^ (6 * (ke + 3)) ∧ ∀ t, ev (detE Ls) t = dz t (delta (rng Ls.length)) Ls [] := by
  obtain ⟨h1, h2⟩ := run_fine h Ls.length (Nat.le_refl _)
  rw [List.take_length] at h1 h2
  have hn := h.n
  have l1 : Ls.length * (Le + 1) ≤ 6 * (Le + 1) := Nat.mul_le_mul_right _ hn
  have l2 : Ls.length * (ke + 3) ≤ 6 * (ke + 3) := Nat.mul_le_mul_right _ hn
  refine ⟨?_, ?_, Nat.le_trans (nm_look _ _) (Nat.le_trans h1.nn (Nat.pow_le_pow_right (by decide) l2)), fun t => ?_⟩
  · unfold detE
    by_cases hz : lookE (runE Ls) (rng Ls.length) = []
    · rw [hz]
      intro e he
      cases he
    · obtain ⟨e, q1, q2⟩ := look_mem hz
      rw [← q2]
      exact (h1.sh e q1).2.2
  · have := look_len h1.sh (rng Ls.length)
    unfold detE
    omega
  · unfold detE
    rw [← PP_delta h1.no, h2]
    unfold E0
    rw [PP_cons, PP_nil]
    show (1 + t * 0) * _ + 0 = _
    grind
end T92
end

section
set_option maxRecDepth 100000
set_option maxHeartbeats 4000000
namespace T92
open PySem L2 Pe
abbrev Bd := List (List Int)
def boardD (F : Bd) : D := .tuple (F.map rowD)
def lineT (F : Bd) (turn size : Nat) : Bd := (List.replicate turn [] ++ F.reverse ++ List.replicate size []).take size
theorem emp_row : PyData.tuple [] = rowD [] := by rw [rowD_eq]; rfl
theorem f_line_of (F : Bd) (turn size : Nat) (h : F.length + turn + size ≤ 2 ^ 20) : Does 1 6 [boardD F, .int turn, .int size] (.list ((lineT F turn size).map rowD)) := by
  refine does_of (fn := fn6) rfl rfl fun n hn => ?_
  have big : 2 ^ 22 < sizeLine := by decide
  have lenF : (F.map rowD).length = F.length := List.length_map ..
  conv => whnf
  refine ⟨by decide, ?_⟩
  conv => whnf
  refine ⟨by decide, ?_⟩
  conv => whnf
  refine ⟨⟨by omega, by omega, by rw [Int.toNat_natCast]; show 1 * turn ≤ _; omega⟩, ?_⟩
  rw [rep_zero]
  conv => whnf
  refine ⟨by rw [List.length_replicate, List.length_reverse, lenF]; omega, ?_⟩
  conv => whnf
  refine ⟨by decide, ?_⟩
  conv => whnf
  refine ⟨by decide, ?_⟩
  conv => whnf
  refine ⟨⟨by omega, by omega, by rw [Int.toNat_natCast]; show 1 * size ≤ _; omega⟩, ?_⟩
  rw [rep_zero]
  conv => whnf
  refine ⟨by rw [List.length_append, List.length_replicate, List.length_reverse, List.length_replicate, lenF]; omega, ?_⟩
  conv => whnf
  refine ⟨_, rfl, _, rfl, ?_⟩
  conv => whnf
  rw [cut_to _ _ (by rw [List.length_append, List.length_append, List.length_replicate, List.length_reverse, List.length_replicate, lenF]; omega)]
  refine congrArg (fun x => Res.val (PyData.list x)) ?_
  unfold lineT
  rw [List.map_take, List.map_append, List.map_append, List.map_replicate, List.map_reverse, List.map_replicate, emp_row]
/-! the table -/
def szT (F G : Bd) (k : Nat) : Nat := F.length + G.length - 2 - 2 * k
def tabT (F G : Bd) (k : Nat) : List Bd := (List.range (G.length - 1 - k)).map (fun t => lineT F t (szT F G k)) ++ (List.range (F.length - 1 - k)).map (fun t => lineT G t (szT F G k))
theorem tabD_map (L : Nat → Bd) (n : Nat) : ((List.range n).map L).map (fun ls => PyData.list (ls.map rowD)) = (List.range n).map fun t => PyData.list ((L t).map rowD) := by
  rw [List.map_map]
  rfl
theorem f_table_of (F G : Bd) (k : Nat) (hF : k + 1 ≤ F.length) (hG : k + 1 ≤ G.length) (h : F.length + G.length ≤ 2 ^ 10) : Does 2 7 [boardD F, boardD G, .int k] (tabD (tabT F G k)) := by
  refine does_of (fn := fn7) rfl rfl fun n hn => ?_
  have big : 2 ^ 22 < sizeLine := by decide
  have lenF : (F.map rowD).length = F.length := List.length_map ..
  have lenG : (G.map rowD).length = G.length := List.length_map ..
  have hm : mulOk 2 (k : Int) := mul_ok (k := 1) (k' := 20) (by decide) (by omega) (by decide)
  have sz : ((F.length : Int) + (G.length : Int) - 2 - 2 * (k : Int)) = ((szT F G k : Nat) : Int) := by
    unfold szT
    omega
  have n1 : ((G.length : Int) - 1 - (k : Int)) = ((G.length - 1 - k : Nat) : Int) := by omega
  have n2 : ((F.length : Int) - 1 - (k : Int)) = ((F.length - 1 - k : Nat) : Int) := by omega
  conv => whnf
  refine ⟨hm, ?_⟩
  rw [lenF, lenG]
  conv => whnf
  rw [sz, lenG, n1]
  refine ⟨⟨by omega, by omega⟩, ?_⟩
  rw [Int.toNat_natCast]
  refine comp_rule (fun i acc ρ => acc = (List.range i).map (fun t => PyData.list ((lineT F t (szT F G k)).map rowD)) ∧ ∃ s4 s5, ρ = [.im (boardD F), .im (boardD G), .im (.int k), .im (.int (szT F G k : Nat)), s4, s5]) (fun i x acc ρ N hx hI hN => ?_) (fun acc ρ hI => ?_) ⟨rfl, _, _, rfl⟩
  · obtain ⟨hi, rfl⟩ := rgD_at hx
    obtain ⟨rfl, s4, s5, rfl⟩ := hI
    rw [Int.zero_add]
    conv => whnf
    refine ⟨_, rfl, ?_⟩
    refine ifT rfl ?_
    conv => whnf
    refine ⟨_, f_line_of F i (szT F G k) (by unfold szT; omega) n (by omega), ?_⟩
    conv => whnf
    refine ⟨by rw [List.length_map, List.length_range]; omega, hN _ _ ⟨?_, _, _, rfl⟩⟩
    rw [List.range_succ, List.map_append]
    rfl
  · obtain ⟨rfl, s4, s5, rfl⟩ := hI
    rw [rgD_len]
    conv => whnf
    rw [lenF, n2]
    refine ⟨⟨by omega, by omega⟩, ?_⟩
    rw [Int.toNat_natCast]
    refine comp_rule (fun i acc ρ => acc = (List.range i).map (fun t => PyData.list ((lineT G t (szT F G k)).map rowD)) ∧ ∃ s5, ρ = [.im (boardD F), .im (boardD G), .im (.int k), .im (.int (szT F G k : Nat)), .own (.list ((List.range (G.length - 1 - k)).map (fun t => PyData.list ((lineT F t (szT F G k)).map rowD)))), s5]) (fun i x acc ρ N hx hI hN => ?_) (fun acc ρ hI => ?_) ⟨rfl, _, rfl⟩
    · obtain ⟨hi, rfl⟩ := rgD_at hx
      obtain ⟨rfl, s5, rfl⟩ := hI
      rw [Int.zero_add]
      conv => whnf
      refine ⟨_, rfl, ?_⟩
      refine ifT rfl ?_
      conv => whnf
      refine ⟨_, f_line_of G i (szT F G k) (by unfold szT; omega) n (by omega), ?_⟩
      conv => whnf
      refine ⟨by rw [List.length_map, List.length_range]; omega, hN _ _ ⟨?_, _, rfl⟩⟩
      rw [List.range_succ, List.map_append]
      rfl
    · obtain ⟨rfl, s5, rfl⟩ := hI
      rw [rgD_len]
      conv => whnf
      refine ⟨by rw [List.length_map, List.length_map, List.length_range, List.length_range]; omega, ?_⟩
      conv => whnf
      refine congrArg (fun x => Res.val (PyData.list x)) ?_
      unfold tabT
      rw [List.map_append, tabD_map, tabD_map]
structure BdOk (L k : Nat) (F : Bd) : Prop where
  tr : ∀ l ∈ F, Trimmed l
  ok : ∀ l ∈ F, nm l ≤ 2 ^ k ∧ l.length ≤ L
theorem line_mem {F : Bd} {turn size : Nat} {l : List Int} (h : l ∈ lineT F turn size) : l = [] ∨ l ∈ F := by
  have h := List.mem_of_mem_take h
  rcases List.mem_append.mp h with h | h
  · rcases List.mem_append.mp h with h | h
    · exact .inl (List.eq_of_mem_replicate h)
    · exact .inr (List.mem_reverse.mp h)
  · exact .inl (List.eq_of_mem_replicate h)
theorem line_size (F : Bd) (turn size : Nat) : (lineT F turn size).length ≤ size := by
  unfold lineT
  rw [List.length_take]
  omega
theorem tab_ok {L k : Nat} {F G : Bd} {j : Nat} (hF : BdOk L k F) (hG : BdOk L k G) (h : F.length + G.length ≤ 8 + 2 * j) (h1 : j + 1 ≤ F.length) (h2 : j + 1 ≤ G.length) : TabOk L k (tabT F G j) where
  n := by
    unfold tabT
    rw [List.length_append, List.length_map, List.length_map, List.length_range, List.length_range]
    omega
  wide := fun ls hl => by
    unfold tabT at hl
    rcases List.mem_append.mp hl with hl | hl <;>
    · obtain ⟨t, _, rfl⟩ := List.mem_map.mp hl
      refine Nat.le_trans (line_size _ _ _) ?_
      unfold szT
      omega
  ent := fun ls hl l hm => by
    unfold tabT at hl
    rcases List.mem_append.mp hl with hl | hl
    · obtain ⟨t, _, rfl⟩ := List.mem_map.mp hl
      rcases line_mem hm with rfl | hm
      · exact ⟨Nat.zero_le _, Nat.zero_le _⟩
      · exact hF.ok l hm
    · obtain ⟨t, _, rfl⟩ := List.mem_map.mp hl
      rcases line_mem hm with rfl | hm
      · exact ⟨Nat.zero_le _, Nat.zero_le _⟩
      · exact hG.ok l hm
def tieE (F G : Bd) (j : Nat) : List Int := detE (tabT F G j)
theorem f_tie {L k : Nat} {F G : Bd} {j : Nat} (hF : BdOk L k F) (hG : BdOk L k G) (h : F.length + G.length ≤ 8 + 2 * j) (h1 : j + 1 ≤ F.length) (h2 : j + 1 ≤ G.length) (h3 : F.length + G.length ≤ 2 ^ 10) (hL : L ≤ 2 ^ 10) (hk : k ≤ 2 ^ 10) : Does 5 11 [boardD F, boardD G, .int j] (rowD (tieE F G j)) := by
  refine does_of (fn := fn11) rfl rfl fun n hn => ?_
  conv => whnf
  refine ⟨_, f_table_of F G j h1 h2 h3 n (by omega), ?_⟩
  conv => whnf
  refine ⟨_, f_determinant (tab_ok hF hG h h1 h2) hL hk n (by omega), ?_⟩
  conv => whnf
  rfl
end T92
end

section
set_option maxRecDepth 100000
set_option maxHeartbeats 4000000
namespace T92
open PySem L2 Pe
def ce (F : Bd) : Nat → Nat
  | 0 => 0
  | e + 1 => if F.getD e [] = [] then ce F e else e + 1
def cutB (F : Bd) : Bd := F.take (ce F F.length)
theorem ce_le (F : Bd) : ∀ e, ce F e ≤ e
  | 0 => Nat.le_refl 0
  | e + 1 => by
    unfold ce
    split
    · exact Nat.le_succ_of_le (ce_le F e)
    · exact Nat.le_refl _
theorem ce_zero (F : Bd) : ∀ e i, ce F e ≤ i → i < e → F.getD i [] = []
  | 0, i, _, h => by omega
  | e + 1, i, h1, h2 => by
    unfold ce at h1
    split at h1
    · rename_i hz
      by_cases hi : i = e
      · rw [hi]
        exact hz
      · exact ce_zero F e i h1 (by omega)
    · omega
theorem ce_last (F : Bd) : ∀ e f, ce F e = f + 1 → F.getD f [] ≠ []
  | 0, f, h => by
    unfold ce at h
    omega
  | e + 1, f, h => by
    unfold ce at h
    split at h
    · exact ce_last F e f h
    · rename_i hz
      have : f = e := by omega
      rw [this]
      exact hz
theorem f_cut_off (F : Bd) : Does 1 4 [.list (F.map rowD)] (boardD (cutB F)) := by
  refine does_of (fn := fn4) rfl rfl fun n hn => ?_
  have lenF : (F.map rowD).length = F.length := List.length_map ..
  have fin : ∀ m, m ≤ F.length → ce F F.length = ce F m → ce F m = m → boardD (cutB F) = .tuple (Pe.cutD (F.map rowD) none (some (m : Int))) := fun m h1 h2 h3 => by
    rw [cut_to _ _ (by rw [lenF]; exact h1)]
    unfold boardD cutB
    rw [h2, h3, List.map_take]
  conv => whnf
  refine whl_rule (fun e ρ => e ≤ F.length ∧ ce F F.length = ce F e ∧ ∃ e' : Int, e' = e ∧ ρ = [.im (.list (F.map rowD)), .im (.int e')]) (fun m ρ N hI hN => ?_) (m := F.length) ⟨Nat.le_refl _, rfl, _, by rw [lenF], rfl⟩
  obtain ⟨h1, h2, e', he, rfl⟩ := hI
  subst he
  conv => whnf
  refine ⟨_, _, rfl, rfl, ?_⟩
  conv => whnf
  refine ⟨_, rfl, ?_⟩
  cases m with
  | zero =>
    refine ifF (by decide) ?_
    conv => whnf
    refine ⟨_, rfl, ?_⟩
    refine ifF (by rfl) ?_
    conv => whnf
    refine ⟨_, rfl, _, rfl, ?_⟩
    conv => whnf
    exact congrArg Res.val (fin 0 h1 h2 rfl)
  | succ m =>
    refine ifT (by rw [decide_eq_true_eq]; omega) ?_
    have e1 : ((m + 1 : Nat) : Int) - 1 = (m : Int) := by omega
    conv => whnf
    refine ⟨_, _, rfl, (by rw [e1]; exact at_nat (at_rows h1)), ?_⟩
    conv => whnf
    refine ⟨by decide, ?_⟩
    conv => whnf
    refine ⟨row_ok _, emp_ok, ?_⟩
    rw [row_emp]
    conv => whnf
    refine ⟨_, rfl, ?_⟩
    by_cases hz : F.getD m [] = []
    · refine ifT (decide_eq_true hz) ?_
      conv => whnf
      refine hN m _ (Nat.lt_succ_self m) ⟨by omega, ?_, _, e1, rfl⟩
      rw [h2]
      show (if F.getD m [] = [] then ce F m else m + 1) = _
      rw [if_pos hz]
    · refine ifF (decide_eq_false hz) ?_
      conv => whnf
      refine ⟨_, rfl, _, rfl, ?_⟩
      conv => whnf
      refine congrArg Res.val (fin (m + 1) h1 h2 ?_)
      show (if F.getD m [] = [] then ce F m else m + 1) = _
      rw [if_neg hz]
/-! products of boards -/
def stepB (F G : Bd) (j : Nat) (X : Bd) (k : Nat) : Bd := X.set (j + k) (sumR (X.getD (j + k) []) (prodR (F.getD j []) (G.getD k [])))
def rowB (F G : Bd) (X : Bd) (j : Nat) : Bd := (List.range G.length).foldl (stepB F G j) X
def btB (F G : Bd) : Bd := (List.range F.length).foldl (rowB F G) (List.replicate (F.length + G.length) [])
theorem rows_at {F : Bd} {L k : Nat} (h : BdOk L k F) (j : Nat) : nm (F.getD j []) ≤ 2 ^ k ∧ (F.getD j []).length ≤ L := by
  rw [List.getD_eq_getElem?_getD]
  cases q : F[j]? with
  | none => exact ⟨Nat.zero_le _, Nat.zero_le _⟩
  | some l => exact h.ok l (List.mem_of_getElem? q)
structure XOk (L B n : Nat) (X : Bd) : Prop where
  len : X.length = n
  tr : ∀ l ∈ X, Trimmed l
  ok : ∀ l ∈ X, nm l ≤ B ∧ l.length ≤ L
theorem XOk.at_ {L B n : Nat} {X : Bd} (h : XOk L B n X) (j : Nat) : nm (X.getD j []) ≤ B ∧ (X.getD j []).length ≤ L := by
  rw [List.getD_eq_getElem?_getD]
  cases q : X[j]? with
  | none => exact ⟨Nat.zero_le _, Nat.zero_le _⟩
  | some l => exact h.ok l (List.mem_of_getElem? q)
theorem step_ok {L k L' k' B n : Nat} {F G X : Bd} (hF : BdOk L k F) (hG : BdOk L' k' G) (h : XOk (L + L') B n X) (j i : Nat) : XOk (L + L') (B + 2 ^ (k + k')) n (stepB F G j X i) where
  len := by
    unfold stepB
    rw [List.length_set]
    exact h.len
  tr := fun l hl => by
    unfold stepB at hl
    rcases List.mem_or_eq_of_mem_set hl with hl | rfl
    · exact h.tr l hl
    · exact trim_trimmed _
  ok := fun l hl => by
    unfold stepB at hl
    rcases List.mem_or_eq_of_mem_set hl with hl | rfl
    · have := h.ok l hl
      exact ⟨Nat.le_trans this.1 (Nat.le_add_right _ _), this.2⟩
    · have a := h.at_ (j + i)
      have f := rows_at hF j
      have g := rows_at hG i
      have n1 := nm_sumR (X.getD (j + i) []) (prodR (F.getD j []) (G.getD i []))
      have n2 := nm_prodR (F.getD j []) (G.getD i [])
      have n3 : nm (F.getD j []) * nm (G.getD i []) ≤ 2 ^ k * 2 ^ k' := Nat.mul_le_mul f.1 g.1
      rw [← Nat.pow_add] at n3
      have l1 := len_sumR (X.getD (j + i) []) (prodR (F.getD j []) (G.getD i []))
      have l2 := len_prodR (F.getD j []) (G.getD i [])
      exact ⟨by omega, by omega⟩
theorem steps_ok {L k L' k' B n : Nat} {F G X : Bd} (hF : BdOk L k F) (hG : BdOk L' k' G) (h : XOk (L + L') B n X) (j : Nat) : ∀ i : Nat, XOk (L + L') (B + i * 2 ^ (k + k')) n ((List.range i).foldl (stepB F G j) X)
  | 0 => by simpa using h
  | i + 1 => by
    rw [List.range_succ, List.foldl_append]
    have := step_ok hF hG (steps_ok hF hG h j i) j i
    refine ⟨this.len, this.tr, fun l hl => ⟨?_, (this.ok l hl).2⟩⟩
    have := (this.ok l hl).1
    rw [Nat.add_mul]
    omega
theorem rowsB_ok {L k L' k' : Nat} {F G : Bd} (hF : BdOk L k F) (hG : BdOk L' k' G) : ∀ j : Nat, XOk (L + L') (j * (G.length * 2 ^ (k + k'))) (F.length + G.length) ((List.range j).foldl (rowB F G) (List.replicate (F.length + G.length) []))
  | 0 => by
    refine ⟨List.length_replicate .., fun l hl => ?_, fun l hl => ?_⟩
    · have : l = [] := List.eq_of_mem_replicate hl
      rw [this]
      intro e he
      cases he
    · have : l = [] := List.eq_of_mem_replicate hl
      rw [this]
      exact ⟨Nat.zero_le _, Nat.zero_le _⟩
  | j + 1 => by
    rw [List.range_succ, List.foldl_append]
    have := steps_ok hF hG (rowsB_ok hF hG j) j G.length
    refine ⟨this.len, this.tr, fun l hl => ⟨?_, (this.ok l hl).2⟩⟩
    have := (this.ok l hl).1
    rw [Nat.add_mul]
    omega
theorem map_set_row (X : Bd) (i : Nat) (l : List Int) : (X.map rowD).set i (rowD l) = (X.set i l).map rowD := by
  rw [List.map_set]
theorem f_board_times {L k L' k' : Nat} {F G : Bd} (hF : BdOk L k F) (hG : BdOk L' k' G) (hL : L + L' ≤ 2 ^ 18) (hk : k + k' ≤ 2 ^ 18) (h : F.length + G.length ≤ 2 ^ 10) : Does 3 5 [boardD F, boardD G] (boardD (cutB (btB F G))) := by
  refine does_of (fn := fn5) rfl rfl fun n hn => ?_
  have big : 2 ^ 22 < sizeLine := by decide
  have lenF : (F.map rowD).length = F.length := List.length_map ..
  have lenG : (G.map rowD).length = G.length := List.length_map ..
  conv => whnf
  rw [lenF, lenG]
  refine ⟨⟨by omega, by omega⟩, ?_⟩
  rw [← Int.natCast_add, Int.toNat_natCast]
  refine comp_rule (fun i acc ρ => acc = (List.replicate i ([] : List Int)).map rowD ∧ ∃ s2 s3 s4, ρ = [.im (boardD F), .im (boardD G), s2, s3, s4]) (fun i x acc ρ N hx hI hN => ?_) (fun acc ρ hI => ?_) ⟨rfl, _, _, _, rfl⟩
  · obtain ⟨hi, rfl⟩ := rgD_at hx
    obtain ⟨rfl, s2, s3, s4, rfl⟩ := hI
    conv => whnf
    refine ⟨_, rfl, ?_⟩
    refine ifT rfl ?_
    conv => whnf
    refine ⟨by decide, ?_⟩
    conv => whnf
    refine ⟨by rw [List.length_map, List.length_replicate]; omega, hN _ _ ⟨?_, _, _, _, rfl⟩⟩
    rw [List.replicate_succ', List.map_append, emp_row]
    rfl
  · obtain ⟨rfl, s2, s3, s4, rfl⟩ := hI
    rw [rgD_len]
    conv => whnf
    rw [lenF]
    refine ⟨⟨by omega, by omega⟩, ?_⟩
    rw [Int.toNat_natCast]
    refine for_rule (fun j ρ => ∃ s3 s4, ρ = [.im (boardD F), .im (boardD G), .own (.list (((List.range j).foldl (rowB F G) (List.replicate (F.length + G.length) [])).map rowD)), s3, s4]) (fun j x ρ N hx hI hN => ?_) (fun ρ hI => ?_) ⟨_, _, rfl⟩
    · obtain ⟨hj, rfl⟩ := rgD_at hx
      obtain ⟨s3, s4, rfl⟩ := hI
      rw [Int.zero_add]
      have g1 := rowsB_ok hF hG j
      conv => whnf
      rw [lenG]
      refine ⟨⟨by omega, by omega⟩, ?_⟩
      rw [Int.toNat_natCast]
      refine for_rule (fun i ρ => ∃ s4, ρ = [.im (boardD F), .im (boardD G), .own (.list (((List.range i).foldl (stepB F G j) ((List.range j).foldl (rowB F G) (List.replicate (F.length + G.length) []))).map rowD)), .im (.int j), s4]) (fun i x ρ N' hx hI hN' => ?_) (fun ρ hI => ?_) ⟨_, rfl⟩
      · obtain ⟨hi, rfl⟩ := rgD_at hx
        obtain ⟨s4, rfl⟩ := hI
        rw [Int.zero_add]
        have g2 := steps_ok hF hG g1 j i
        have next : stepB F G j ((List.range i).foldl (stepB F G j) ((List.range j).foldl (rowB F G) (List.replicate (F.length + G.length) []))) i = (List.range (i + 1)).foldl (stepB F G j) ((List.range j).foldl (rowB F G) (List.replicate (F.length + G.length) [])) := by
          rw [List.range_succ, List.foldl_append]
          rfl
        generalize (List.range i).foldl (stepB F G j) ((List.range j).foldl (rowB F G) (List.replicate (F.length + G.length) [])) = X at g2 next ⊢
        have hl : j + i < X.length := by rw [g2.len]; omega
        have f1 := rows_at hF j
        have f2 := rows_at hG i
        have f3 := g2.at_ (j + i)
        conv => whnf
        refine ⟨_, _, rfl, (by rw [← Int.natCast_add]; exact at_nat (at_rows hl)), ?_⟩
        conv => whnf
        refine ⟨_, _, rfl, at_nat (at_rows hj), ?_⟩
        conv => whnf
        refine ⟨_, _, rfl, at_nat (at_rows hi), ?_⟩
        conv => whnf
        refine ⟨_, f_row_times (F.getD j []) (G.getD i []) (k := k) (k' := k') (by omega) (by omega) f1.1 f2.1 (by omega) n (by omega), ?_⟩
        conv => whnf
        have l2 := len_prodR (F.getD j []) (G.getD i [])
        refine ⟨_, f_row_plus (X.getD (j + i) []) (prodR (F.getD j []) (G.getD i [])) (by omega) (by omega) n (by omega), ?_⟩
        conv => whnf
        refine ⟨_, j + i, rfl, (by rw [← Int.natCast_add, List.length_map]; exact ix_nat hl), ?_⟩
        refine hN' _ ?_
        rw [← next]
        unfold stepB
        rw [← map_set_row]
        exact ⟨_, rfl⟩
      · obtain ⟨s4, rfl⟩ := hI
        rw [rgD_len]
        refine hN _ ?_
        rw [List.range_succ, List.foldl_append]
        exact ⟨_, _, rfl⟩
    · obtain ⟨s3, s4, rfl⟩ := hI
      rw [rgD_len]
      conv => whnf
      refine ⟨_, f_cut_off (btB F G) n (by omega), ?_⟩
      conv => whnf
end T92
end

section
set_option maxRecDepth 100000
set_option maxHeartbeats 4000000
namespace T92
open PySem L2 Pe
theorem mul_r {a b : Int} (h1 : -(2 ^ 64) < b) (h2 : b < 2 ^ 64) : mulOk a b := PySem.IntMulOk.of_right (PySem.intBits_le_64 h1 h2)
theorem mul_l {a b : Int} (h1 : -(2 ^ 64) < a) (h2 : a < 2 ^ 64) : mulOk a b := PySem.IntMulOk.of_left (PySem.intBits_le_64 h1 h2)
theorem fm_lo (a : Int) {b : Int} (h : 0 < b) : 0 ≤ a.fmod b := by
  rw [Int.fmod_eq_emod_of_nonneg _ (by omega)]
  exact Int.emod_nonneg _ (by omega)
theorem fm_hi (a : Int) {b : Int} (h : 0 < b) : a.fmod b < b := by
  rw [Int.fmod_eq_emod_of_nonneg _ (by omega)]
  exact Int.emod_lt_of_pos _ h
theorem cut_first (xs : List D) (e : Nat) : Pe.cutD xs none (some (e : Int)) = xs.take (min e xs.length) := by
  unfold Pe.cutD
  rw [HT.sIx_none, HT.sIx_nat]
  simp
theorem cut_mid (xs : List D) (a b : Nat) (h : b ≤ xs.length) : Pe.cutD xs (some (a : Int)) (some (b : Int)) = (xs.drop a).take (b - a) := by
  unfold Pe.cutD
  rw [HT.sIx_nat, HT.sIx_nat, Nat.min_eq_left h]
  rcases Nat.lt_or_ge a xs.length with h' | h'
  · rw [Nat.min_eq_left (by omega)]
  · rw [Nat.min_eq_right h', List.drop_of_length_le (Nat.le_refl _), List.drop_of_length_le h']
    simp
theorem cut_from (xs : List D) (a : Nat) (h : a ≤ xs.length) : Pe.cutD xs (some (a : Int)) none = xs.drop a := by
  unfold Pe.cutD
  rw [HT.sIx_nat, HT.sIx_none, Nat.min_eq_left h, List.take_of_length_le (by rw [List.length_drop]; omega)]
theorem f_cell (ns : List Int) (k : Nat) (hk : k ≤ 3) : ∃ v : Int, Does 1 12 [.list (ns.map .int), .int k] (.int v) := by
  let m : Int := 2147483647
  let s0 : Int := (48271 * ((k : Int) * k + 7 * k + 11)).fmod m
  let st : Nat → Int := fun i => (ns.take i).foldl (fun s c => (s * 69621 + c).fmod m) s0
  refine ⟨if k < ns.length then ns.getD k 0 else st (min 3 ns.length), does_of (fn := fn12) rfl rfl fun n hn => ?_⟩
  conv => whnf
  refine ⟨_, _, rfl, rfl, ?_⟩
  conv => whnf
  refine ⟨_, rfl, ?_⟩
  by_cases h : k < ns.length
  · refine ifT (by rw [decide_eq_true_eq, map_len]; omega) ?_
    rw [if_pos h]
    conv => whnf
    refine ⟨_, _, rfl, at_nat (getD_int ns k h), ?_⟩
    conv => whnf
  · refine ifF (by rw [decide_eq_false_iff_not, map_len]; omega) ?_
    rw [if_neg h]
    conv => whnf
    refine ⟨mul_l (by omega) (by omega), ?_⟩
    conv => whnf
    refine ⟨mul_l (by omega) (by omega), ?_⟩
    conv => whnf
    refine ⟨mul_l (by omega) (by omega), ?_⟩
    conv => whnf
    refine ⟨by decide, ?_⟩
    conv => whnf
    refine ⟨_, rfl, _, rfl, ?_⟩
    conv => whnf
    have e3 : Pe.cutD (ns.map .int) none (some 3) = (ns.take (min 3 ns.length)).map .int := by
      have := cut_first (ns.map .int) 3
      rw [map_len] at this
      rw [List.map_take]
      exact this
    rw [e3]
    refine for_rule (fun i ρ => ∃ s3, ρ = [.im (.list (ns.map .int)), .im (.int k), .im (.int (st i)), s3]) (fun i x ρ N hx hI hN => ?_) (fun ρ hI => ?_) ⟨_, rfl⟩
    · obtain ⟨s3, rfl⟩ := hI
      rw [List.getElem?_map] at hx
      obtain ⟨c, hc, rfl⟩ := Option.map_eq_some_iff.mp hx
      have hc' : ns[i]? = some c := by
        rw [List.getElem?_take] at hc
        split at hc
        · exact hc
        · cases hc
      have hs : st (i + 1) = (st i * 69621 + c).fmod m := by
        show (ns.take (i + 1)).foldl _ _ = _
        rw [List.take_succ, hc', List.foldl_append]
        rfl
      conv => whnf
      refine ⟨mul_r (by decide) (by decide), ?_⟩
      conv => whnf
      refine ⟨by decide, ?_⟩
      refine hN _ ?_
      rw [hs]
      exact ⟨_, rfl⟩
    · obtain ⟨s3, rfl⟩ := hI
      rw [map_len, List.length_take, Nat.min_assoc, Nat.min_self]
      conv => whnf
/-! trim of the law -/
theorem f_trim (cs : List Int) : Does 1 14 [.list (cs.map .int)] (rowD (trim cs)) := by
  refine does_of (fn := fn14) rfl rfl fun n hn => ?_
  have okL : ∀ l : List Int, okEq (.list (l.map .int)) := fun l => by
    unfold okEq
    have e1 : (PyData.list (l.map .int)).canLay0 = true := by
      unfold PyData.canLay0
      exact lay_ints l
    have e2 : (PyData.list (l.map .int)).depth = 1 := by
      unfold PyData.depth
      rw [depth_ints]
    unfold SeqAt.shaped
    rw [e1, e2]
    rfl
  have eqL : ∀ l : List Int, eqd (.list (l.map .int)) (.list []) = decide (l = []) := fun l => by
    show PyData.eqv (.list _) (.list _) = _
    rw [PyData.eqv]
    exact eqv_ints l []
  conv => whnf
  refine whl_rule (fun e ρ => e ≤ cs.length ∧ te cs cs.length = te cs e ∧ ρ = [.im (.list (cs.map .int)), .own (.list ((cs.take e).map .int))]) (fun m ρ N hI hN => ?_) (m := cs.length) ⟨Nat.le_refl _, rfl, by rw [List.take_length]; rfl⟩
  obtain ⟨h1, h2, rfl⟩ := hI
  have hlen : (cs.take m).length = m := by rw [List.length_take, Nat.min_eq_left h1]
  conv => whnf
  refine ⟨by decide, ?_⟩
  conv => whnf
  refine ⟨okL _, okL [], ?_⟩
  rw [eqL]
  conv => whnf
  refine ⟨_, rfl, ?_⟩
  cases m with
  | zero =>
    refine ifF (by rw [List.take_zero]; rfl) ?_
    conv => whnf
    refine ⟨_, rfl, ?_⟩
    refine ifF rfl ?_
    conv => whnf
    refine congrArg Res.val ?_
    rw [rowD_eq]
    unfold trim
    rw [h2]
    rfl
  | succ m =>
    have hne : cs.take (m + 1) ≠ [] := fun z => by
      rw [z] at hlen
      cases hlen
    refine ifT (by rw [decide_eq_false hne]; rfl) ?_
    have e1 : (((cs.take (m + 1)).map PyData.int).length : Int) - 1 = (m : Int) := by
      rw [map_len, hlen]
      omega
    have e2 : (cs.take (m + 1)).getD m 0 = cs.getD m 0 := by
      rw [List.getD_eq_getElem?_getD, List.getElem?_take, if_pos (by omega), ← List.getD_eq_getElem?_getD]
    conv => whnf
    refine ⟨_, _, rfl, (by rw [e1]; exact at_nat (getD_int _ m (by omega))), ?_⟩
    rw [e2]
    conv => whnf
    refine ⟨shaped_int _, shaped_int _, ?_⟩
    rw [ev_int]
    conv => whnf
    refine ⟨_, rfl, ?_⟩
    by_cases hz : cs.getD m 0 = 0
    · refine ifT (decide_eq_true hz) ?_
      conv => whnf
      refine ⟨.int (cs.getD m 0), ?_, ?_⟩
      · rw [map_len, hlen]
        have := getD_int (cs.take (m + 1)) m (by omega)
        rw [e2] at this
        exact this
      · refine hN m _ (Nat.lt_succ_self m) ⟨by omega, ?_, ?_⟩
        · rw [h2]
          show (if cs.getD m 0 = 0 then te cs m else m + 1) = _
          rw [if_pos hz]
        · have e3 : ((cs.take (m + 1)).map PyData.int).dropLast = (cs.take m).map .int := by
            rw [List.dropLast_eq_take, map_len, hlen, ← List.map_take, List.take_take]
            congr 2
            omega
          rw [e3]
          rfl
    · refine ifF (decide_eq_false hz) ?_
      conv => whnf
      refine congrArg Res.val ?_
      rw [rowD_eq]
      unfold trim
      have : te cs (m + 1) = m + 1 := by
        show (if cs.getD m 0 = 0 then te cs m else m + 1) = _
        rw [if_neg hz]
      rw [h2, this]
end T92
end

section
set_option maxRecDepth 100000
set_option maxHeartbeats 4000000
namespace T92
open PySem L2 Pe
def stS (s0 : Int) : Nat → Int
  | 0 => s0
  | i + 1 => (stS s0 i * ((stS s0 i).fmod 65521 + 40487) + 7 * (i : Int) + 5).fmod 1999999973
def stD (d0 : Int) : Nat → Int
  | 0 => d0
  | i + 1 => (stD d0 i).fdiv 1000000
def numX (s0 d0 : Int) (i : Nat) : Int := if 0 < stD d0 i then (stD d0 i).fmod 1000000 else stS s0 (i + 1)
def nums (s0 d0 : Int) (n : Nat) : List Int := (List.range n).map (numX s0 d0)
theorem div_ok (x : Int) : divOk x 1000000 := ⟨by decide, by
  unfold Builtin.divisionGoesByPylong
  rfl⟩
theorem f_numbers (cell : Int) (many : Nat) (hm : many ≤ 2 ^ 10) : ∃ s0 d0 : Int, Does 1 13 [.int cell, .int many] (.list ((nums s0 d0 many).map .int)) := by
  refine ⟨((cell.fmod 1999999973 + 31) * 765432101).fmod 1999999973, if cell < 0 then (if cell < 0 then -cell else cell) else if (10 : Int) ^ 18 ≤ cell then (if cell < 0 then -cell else cell) else 0, ?_⟩
  generalize hs : ((cell.fmod 1999999973 + 31) * 765432101).fmod 1999999973 = s0
  generalize hd : (if cell < 0 then (if cell < 0 then -cell else cell) else if (10 : Int) ^ 18 ≤ cell then (if cell < 0 then -cell else cell) else 0) = d0
  refine does_of (fn := fn13) rfl rfl fun n hn => ?_
  have big : 2 ^ 22 < sizeLine := by decide
  have loop : ∀ s5, wpB Gc (CC n) (.cons (.for_ (.nm 5) .range (.cons (.v 1) .nil) (.cons (.asg 3 (.bin .mod (.bin .add (.bin .add (.bin .mul (.v 3) (.bin .add (.bin .mod (.v 3) (.k (.int 65521))) (.k (.int 40487)))) (.bin .mul (.k (.int 7)) (.v 5))) (.k (.int 5))) (.k (.int 1999999973)))) (.cons (.append 2 (.ix (.lst (.cons (.v 3) (.cons (.bin .mod (.v 4) (.k (.int 1000000))) .nil))) (.blt .int (.cons (.cmp .gt (.v 4) (.k (.int 0))) .nil)))) (.cons (.asg 4 (.bin .fdiv (.v 4) (.k (.int 1000000)))) .nil)))) (.cons (.ret (.v 2)) .nil))
      [.im (.int cell), .im (.int many), .own (.list []), .im (.int s0), .im (.int d0), s5] ⟨fun _ => Res.val (.list ((nums s0 d0 many).map .int)) = .val .none, fun e => Res.val (.list ((nums s0 d0 many).map .int)) = .val e, fun _ => False, fun _ => False, fun c => Res.val (.list ((nums s0 d0 many).map .int)) = .exc c⟩ := by
    intro s5
    conv => whnf
    refine ⟨⟨by omega, by omega⟩, ?_⟩
    rw [Int.toNat_natCast]
    refine for_rule (fun i ρ => ∃ s5, ρ = [.im (.int cell), .im (.int many), .own (.list ((nums s0 d0 i).map .int)), .im (.int (stS s0 i)), .im (.int (stD d0 i)), s5]) (fun i x ρ N hx hI hN => ?_) (fun ρ hI => ?_) ⟨_, rfl⟩
    · obtain ⟨hi, rfl⟩ := rgD_at hx
      obtain ⟨s5, rfl⟩ := hI
      rw [Int.zero_add]
      have h1 := fm_lo (stS s0 i) (b := 65521) (by decide)
      have h2 := fm_hi (stS s0 i) (b := 65521) (by decide)
      have next : nums s0 d0 (i + 1) = nums s0 d0 i ++ [numX s0 d0 i] := by
        unfold nums
        rw [List.range_succ, List.map_append]
        rfl
      have hlen : ((nums s0 d0 i).map PyData.int).length < sizeLine := by
        unfold nums
        rw [List.length_map, List.length_map, List.length_range]
        omega
      conv => whnf
      refine ⟨by decide, ?_⟩
      conv => whnf
      refine ⟨mul_r (by omega) (by omega), ?_⟩
      conv => whnf
      refine ⟨mul_l (by decide) (by decide), ?_⟩
      conv => whnf
      refine ⟨by decide, ?_⟩
      conv => whnf
      refine ⟨by decide, ?_⟩
      conv => whnf
      refine ⟨by show 2 ≤ sizeLine; decide, ?_⟩
      conv => whnf
      refine ⟨_, _, rfl, rfl, ?_⟩
      conv => whnf
      by_cases hp : 0 < stD d0 i
      · rw [decide_eq_true hp]
        refine ⟨_, _, rfl, (at_nat (i := 1) rfl), ?_⟩
        conv => whnf
        refine ⟨hlen, ?_⟩
        conv => whnf
        refine ⟨div_ok _, ?_⟩
        refine hN _ ?_
        rw [next, List.map_append]
        unfold numX
        rw [if_pos hp]
        exact ⟨_, rfl⟩
      · rw [decide_eq_false hp]
        refine ⟨_, _, rfl, (at_nat (i := 0) rfl), ?_⟩
        conv => whnf
        refine ⟨hlen, ?_⟩
        conv => whnf
        refine ⟨div_ok _, ?_⟩
        refine hN _ ?_
        rw [next, List.map_append]
        unfold numX
        rw [if_neg hp]
        exact ⟨_, rfl⟩
    · obtain ⟨s5, rfl⟩ := hI
      rw [rgD_len]
      conv => whnf
  conv => whnf
  refine ⟨by decide, ?_⟩
  conv => whnf
  refine ⟨by decide, ?_⟩
  conv => whnf
  refine ⟨mul_r (by decide) (by decide), ?_⟩
  conv => whnf
  refine ⟨by decide, ?_⟩
  rw [hs]
  conv => whnf
  refine ⟨_, _, rfl, rfl, ?_⟩
  conv => whnf
  refine ⟨_, rfl, ?_⟩
  by_cases h1 : cell < 0
  · refine ifT (decide_eq_true h1) ?_
    conv => whnf
    refine ⟨_, rfl, ?_⟩
    refine ifT rfl ?_
    rw [if_pos h1] at hd
    have := loop .un
    rw [← hd] at this ⊢
    exact this
  · refine ifF (decide_eq_false h1) ?_
    rw [if_neg h1] at hd
    conv => whnf
    refine ⟨⟨by decide, by decide, by decide⟩, ?_⟩
    conv => whnf
    refine ⟨_, _, rfl, rfl, ?_⟩
    conv => whnf
    refine ⟨_, rfl, ?_⟩
    by_cases h2 : (10 : Int) ^ 18 ≤ cell
    · refine ifT (decide_eq_true h2) ?_
      rw [if_pos h2] at hd
      have := loop .un
      rw [← hd] at this ⊢
      exact this
    · refine ifF (decide_eq_false h2) ?_
      rw [if_neg h2] at hd
      have := loop .un
      rw [← hd] at this ⊢
      exact this
theorem nums_len (s0 d0 : Int) (n : Nat) : (nums s0 d0 n).length = n := by
  unfold nums
  rw [List.length_map, List.length_range]
end T92
end

section
set_option maxRecDepth 100000
set_option maxHeartbeats 4000000
namespace T92
open PySem L2 Pe
abbrev EI := List ((Nat × Nat) × Int)
def kN (p : Nat × Nat) : D := .tuple [.int p.1, .int p.2]
def dicI (E : EI) : D := .dict (E.map fun e => (kN e.1, .int e.2))
def lookI : EI → Nat × Nat → Int
  | [], _ => 0
  | e :: E, p => if e.1 = p then e.2 else lookI E p
def hasI (E : EI) (p : Nat × Nat) : Bool := E.any fun e => decide (e.1 = p)
def putI (E : EI) (p : Nat × Nat) (x : Int) : EI := if hasI E p = true then E.map fun e => if e.1 = p then (e.1, x) else e else E ++ [(p, x)]
theorem kN_kd (p : Nat × Nat) : kN p = kd [(p.1 : Int), (p.2 : Int)] := rfl
theorem kN_key (p : Nat × Nat) : isKey (kN p) = true := by
  rw [kN_kd]
  exact kd_key _
theorem kN_eq (p q : Nat × Nat) : eqd (kN p) (kN q) = decide (p = q) := by
  rw [kN_kd, kN_kd, kd_eq]
  by_cases h : p = q
  · subst h
    simp
  · rw [decide_eq_false h, decide_eq_false_iff_not]
    intro z
    injection z with z1 z2
    injection z2 with z2 _
    exact h (Prod.ext (by omega) (by omega))
theorem getD_I (E : EI) (p : Nat × Nat) : (getD (E.map fun e => (kN e.1, PyData.int e.2)) (kN p)).getD (.int 0) = .int (lookI E p) := by
  unfold getD
  induction E with
  | nil => rfl
  | cons e E ih =>
    rw [List.map_cons, List.find?_cons]
    have q : eqd (kN e.1, PyData.int e.2).1 (kN p) = decide (e.1 = p) := kN_eq e.1 p
    rw [q]
    unfold lookI
    by_cases h : e.1 = p
    · rw [if_pos h, decide_eq_true h]
      rfl
    · rw [if_neg h, decide_eq_false h]
      exact ih
theorem getD_some (E : EI) (p : Nat × Nat) (h : p ∈ E.map (·.1)) : getD (E.map fun e => (kN e.1, PyData.int e.2)) (kN p) = some (.int (lookI E p)) := by
  unfold getD
  induction E with
  | nil => cases h
  | cons e E ih =>
    rw [List.map_cons, List.find?_cons]
    have q : eqd (kN e.1, PyData.int e.2).1 (kN p) = decide (e.1 = p) := kN_eq e.1 p
    rw [q]
    unfold lookI
    by_cases h' : e.1 = p
    · rw [if_pos h', decide_eq_true h']
      rfl
    · rw [if_neg h', decide_eq_false h']
      exact ih ((List.mem_cons.mp h).resolve_left fun z => h' z.symm)
theorem putD_I (E : EI) (p : Nat × Nat) (x : Int) : putD (E.map fun e => (kN e.1, PyData.int e.2)) (kN p) (.int x) = (putI E p x).map fun e => (kN e.1, PyData.int e.2) := by
  have hq : ∀ e : (Nat × Nat) × Int, eqd (kN e.1, PyData.int e.2).1 (kN p) = decide (e.1 = p) := fun e => kN_eq e.1 p
  have ha : ((E.map fun e => (kN e.1, PyData.int e.2)).any fun q => eqd q.1 (kN p)) = hasI E p := by
    unfold hasI
    rw [List.any_map]
    congr 1
    funext e
    exact hq e
  unfold putD putI
  rw [ha]
  by_cases h : hasI E p = true
  · rw [if_pos h, if_pos h, List.map_map, List.map_map]
    apply List.map_congr_left
    intro e _
    show (if eqd (kN e.1, PyData.int e.2).1 (kN p) = true then ((kN e.1, PyData.int e.2).1, PyData.int x) else (kN e.1, PyData.int e.2)) = _
    rw [hq e]
    by_cases h' : e.1 = p
    · simp [h']
    · simp [h']
  · rw [if_neg h, if_neg h, List.map_append]
    rfl
def NoI (E : EI) : Prop := (E.map (·.1)).Nodup
theorem hasI_mem (E : EI) (p : Nat × Nat) : hasI E p = true ↔ p ∈ E.map (·.1) := by
  unfold hasI
  rw [List.any_eq_true, List.mem_map]
  constructor
  · rintro ⟨e, h1, h2⟩
    exact ⟨e, h1, of_decide_eq_true h2⟩
  · rintro ⟨e, h1, h2⟩
    exact ⟨e, h1, decide_eq_true h2⟩
theorem lookI_no (E : EI) (p : Nat × Nat) (h : p ∉ E.map (·.1)) : lookI E p = 0 := by
  induction E with
  | nil => rfl
  | cons e E ih =>
    rw [List.map_cons, List.mem_cons, not_or] at h
    unfold lookI
    rw [if_neg fun z => h.1 z.symm]
    exact ih h.2
theorem lookI_mem {E : EI} (h : NoI E) {e : (Nat × Nat) × Int} (he : e ∈ E) : lookI E e.1 = e.2 := by
  induction E with
  | nil => cases he
  | cons e' E ih =>
    unfold NoI at h
    rw [List.map_cons, List.nodup_cons] at h
    unfold lookI
    rcases List.mem_cons.mp he with rfl | he
    · rw [if_pos rfl]
    · rw [if_neg fun z => h.1 (by rw [z]; exact List.mem_map_of_mem he)]
      exact ih h.2 he
theorem mapI_no (E : EI) (p : Nat × Nat) (x : Int) (h : p ∉ E.map (·.1)) : (E.map fun e => if e.1 = p then (e.1, x) else e) = E := by
  induction E with
  | nil => rfl
  | cons e E ih =>
    rw [List.map_cons, List.mem_cons, not_or] at h
    rw [List.map_cons, ih h.2, if_neg fun z => h.1 z.symm]
/-- its value: t for the one letter, y for the other -/
def val : EI → Int → Int → Int
  | [], _, _ => 0
  | e :: E, t, y => e.2 * (t ^ e.1.1 * y ^ e.1.2) + val E t y
theorem val_app (E E' : EI) (t y : Int) : val (E ++ E') t y = val E t y + val E' t y := by
  induction E with
  | nil => simp [val]
  | cons e E ih =>
    rw [List.cons_append]
    show e.2 * _ + val (E ++ E') t y = e.2 * _ + val E t y + val E' t y
    rw [ih]
    omega
theorem val_put {E : EI} (h : NoI E) (p : Nat × Nat) (x t y : Int) : val (putI E p x) t y = val E t y + (x - lookI E p) * (t ^ p.1 * y ^ p.2) := by
  unfold putI
  by_cases hh : hasI E p = true
  · rw [if_pos hh]
    have hm := (hasI_mem E p).mp hh
    clear hh
    induction E with
    | nil => cases hm
    | cons e E ih =>
      unfold NoI at h
      rw [List.map_cons, List.nodup_cons] at h
      rw [List.map_cons]
      unfold lookI
      show (if e.1 = p then (e.1, x) else e).2 * (t ^ (if e.1 = p then (e.1, x) else e).1.1 * y ^ (if e.1 = p then (e.1, x) else e).1.2) + val _ t y = e.2 * (t ^ e.1.1 * y ^ e.1.2) + val E t y + _
      by_cases h' : e.1 = p
      · rw [if_pos h', if_pos h', mapI_no E p x (by rw [← h']; exact h.1)]
        show x * (t ^ e.1.1 * y ^ e.1.2) + _ = _
        rw [h']
        grind
      · rw [if_neg h', if_neg h', ih h.2 ((List.mem_cons.mp hm).resolve_left fun z => h' z.symm)]
        omega
  · rw [if_neg hh, val_app, lookI_no E p fun z => hh ((hasI_mem E p).mpr z)]
    show val E t y + (x * (t ^ p.1 * y ^ p.2) + 0) = _
    grind
def VN : EI → Nat
  | [] => 0
  | e :: E => e.2.natAbs + VN E
theorem VN_app (E E' : EI) : VN (E ++ E') = VN E + VN E' := by
  induction E with
  | nil => simp [VN]
  | cons e E ih =>
    rw [List.cons_append]
    show e.2.natAbs + VN (E ++ E') = e.2.natAbs + VN E + VN E'
    rw [ih]
    omega
theorem lookI_le (E : EI) (p : Nat × Nat) : (lookI E p).natAbs ≤ VN E := by
  induction E with
  | nil => exact Nat.le_refl _
  | cons e E ih =>
    unfold lookI
    show _ ≤ e.2.natAbs + VN E
    split <;> omega
theorem mem_le {E : EI} {e : (Nat × Nat) × Int} (h : e ∈ E) : e.2.natAbs ≤ VN E := by
  induction E with
  | nil => cases h
  | cons e' E ih =>
    show _ ≤ e'.2.natAbs + VN E
    rcases List.mem_cons.mp h with rfl | h
    · omega
    · have := ih h
      omega
theorem VN_put {E : EI} (h : NoI E) (p : Nat × Nat) (x : Int) {z : Nat} (hx : x.natAbs ≤ (lookI E p).natAbs + z) : VN (putI E p x) ≤ VN E + z := by
  unfold putI
  by_cases hh : hasI E p = true
  · rw [if_pos hh]
    have hm := (hasI_mem E p).mp hh
    clear hh
    induction E with
    | nil => cases hm
    | cons e E ih =>
      unfold NoI at h
      rw [List.map_cons, List.nodup_cons] at h
      unfold lookI at hx
      rw [List.map_cons]
      show (if e.1 = p then (e.1, x) else e).2.natAbs + VN _ ≤ e.2.natAbs + VN E + z
      by_cases h' : e.1 = p
      · rw [if_pos h'] at hx ⊢
        rw [mapI_no E p x (by rw [← h']; exact h.1)]
        show x.natAbs + VN E ≤ _
        omega
      · rw [if_neg h'] at hx ⊢
        have := ih h.2 hx ((List.mem_cons.mp hm).resolve_left fun z => h' z.symm)
        omega
  · rw [if_neg hh, VN_app]
    rw [lookI_no E p fun z => hh ((hasI_mem E p).mpr z)] at hx
    have : (0 : Int).natAbs = 0 := rfl
    show VN E + (x.natAbs + 0) ≤ _
    omega
structure OkI (I J B n : Nat) (E : EI) : Prop where
  no : NoI E
  kb : ∀ e ∈ E, e.1.1 ≤ I ∧ e.1.2 ≤ J
  vn : VN E ≤ B
  len : E.length ≤ n
theorem okI_nil {I J : Nat} : OkI I J 0 0 [] := ⟨List.nodup_nil, (fun e h => by cases h), Nat.le_refl _, Nat.le_refl _⟩
theorem OkI.mono {I J B n I' J' B' n' : Nat} {E : EI} (h : OkI I J B n E) (h1 : I ≤ I') (h2 : J ≤ J') (h3 : B ≤ B') (h4 : n ≤ n') : OkI I' J' B' n' E :=
  ⟨h.no, fun e he => ⟨Nat.le_trans (h.kb e he).1 h1, Nat.le_trans (h.kb e he).2 h2⟩, Nat.le_trans h.vn h3, Nat.le_trans h.len h4⟩
theorem okI_put {I J B n : Nat} {E : EI} (h : OkI I J B n E) {p : Nat × Nat} (h1 : p.1 ≤ I) (h2 : p.2 ≤ J) {x : Int} {z : Nat} (hx : x.natAbs ≤ (lookI E p).natAbs + z) : OkI I J (B + z) (n + 1) (putI E p x) where
  no := by
    have hn := h.no
    unfold NoI putI at *
    by_cases hh : hasI E p = true
    · rw [if_pos hh, List.map_map]
      have e : (E.map ((fun x => x.1) ∘ fun e => if e.1 = p then (e.1, x) else e)) = E.map (·.1) := by
        apply List.map_congr_left
        intro e _
        show (if e.1 = p then (e.1, x) else e).1 = e.1
        split <;> rfl
      rw [e]
      exact hn
    · rw [if_neg hh, List.map_append]
      refine List.nodup_append.mpr ⟨hn, by simp, fun a ha b hb e => ?_⟩
      have hb' : b = p := by simpa using hb
      exact hh ((hasI_mem E p).mpr (by rw [← hb', ← e]; exact ha))
  kb := fun e he => by
    unfold putI at he
    split at he
    · obtain ⟨e', q1, q2⟩ := List.mem_map.mp he
      split at q2
      · rename_i hh
        rw [← q2]
        exact ⟨by rw [hh]; exact h1, by rw [hh]; exact h2⟩
      · rw [← q2]
        exact h.kb e' q1
    · rcases List.mem_append.mp he with he | he
      · exact h.kb e he
      · have : e = (p, x) := by simpa using he
        rw [this]
        exact ⟨h1, h2⟩
  vn := Nat.le_trans (VN_put h.no p x hx) (Nat.add_le_add_right h.vn _)
  len := by
    have := h.len
    unfold putI
    split
    · rw [List.length_map]
      omega
    · rw [List.length_append]
      simp
      omega
/-- x more at p -/
def addI (E : EI) (p : Nat × Nat) (x : Int) : EI := putI E p (lookI E p + x)
theorem okI_add {I J B n : Nat} {E : EI} (h : OkI I J B n E) {p : Nat × Nat} (h1 : p.1 ≤ I) (h2 : p.2 ≤ J) (x : Int) : OkI I J (B + x.natAbs) (n + 1) (addI E p x) := okI_put h h1 h2 (by omega)
theorem val_add {E : EI} (h : NoI E) (p : Nat × Nat) (x t y : Int) : val (addI E p x) t y = val E t y + x * (t ^ p.1 * y ^ p.2) := by
  unfold addI
  rw [val_put h]
  grind
/-! products -/
def stepP (e1 : (Nat × Nat) × Int) (f : EI) (e2 : (Nat × Nat) × Int) : EI := addI f (e1.1.1 + e2.1.1, e1.1.2 + e2.1.2) (e1.2 * e2.2)
def rowP (B : EI) (f : EI) (e1 : (Nat × Nat) × Int) : EI := B.foldl (stepP e1) f
def prodI (A B : EI) : EI := A.foldl (rowP B) []
theorem rowP_ok {I J I' J' b n : Nat} {f : EI} {e1 : (Nat × Nat) × Int} (he : e1.1.1 ≤ I ∧ e1.1.2 ≤ J) (h : OkI (I + I') (J + J') b n f) : ∀ (B : EI), (∀ e ∈ B, e.1.1 ≤ I' ∧ e.1.2 ≤ J') → OkI (I + I') (J + J') (b + e1.2.natAbs * VN B) (n + B.length) (B.foldl (stepP e1) f) ∧ ∀ t y, val (B.foldl (stepP e1) f) t y = val f t y + e1.2 * (t ^ e1.1.1 * y ^ e1.1.2) * val B t y := by
  intro B
  induction B generalizing f b n with
  | nil =>
    intro _
    exact ⟨h.mono (Nat.le_refl _) (Nat.le_refl _) (Nat.le_add_right _ _) (Nat.le_refl _), fun t y => by simp [val]⟩
  | cons e2 B ih =>
    intro hB
    have k2 := hB e2 List.mem_cons_self
    have h' : OkI (I + I') (J + J') (b + (e1.2 * e2.2).natAbs) (n + 1) (stepP e1 f e2) := okI_add h (by show e1.1.1 + e2.1.1 ≤ _; omega) (by show e1.1.2 + e2.1.2 ≤ _; omega) _
    obtain ⟨z1, z2⟩ := ih h' fun e he => hB e (List.mem_cons_of_mem _ he)
    refine ⟨z1.mono (Nat.le_refl _) (Nat.le_refl _) ?_ (by rw [List.length_cons]; omega), fun t y => ?_⟩
    · show _ ≤ b + e1.2.natAbs * (e2.2.natAbs + VN B)
      rw [Int.natAbs_mul, Nat.mul_add]
      omega
    · show val (B.foldl (stepP e1) (stepP e1 f e2)) t y = val f t y + _ * (e2.2 * (t ^ e2.1.1 * y ^ e2.1.2) + val B t y)
      rw [z2]
      unfold stepP
      rw [val_add h.no]
      show val f t y + e1.2 * e2.2 * (t ^ (e1.1.1 + e2.1.1) * y ^ (e1.1.2 + e2.1.2)) + _ = _
      rw [Int.pow_add, Int.pow_add]
      grind
theorem prodI_ok {I J I' J' b b' n n' : Nat} {A B : EI} (hA : OkI I J b n A) (hB : OkI I' J' b' n' B) : ∀ i : Nat, OkI (I + I') (J + J') (VN (A.take i) * VN B) (i * B.length) ((A.take i).foldl (rowP B) []) ∧ ∀ t y, val ((A.take i).foldl (rowP B) []) t y = val (A.take i) t y * val B t y
  | 0 => by
    rw [List.take_zero]
    exact ⟨okI_nil.mono (Nat.zero_le _) (Nat.zero_le _) (Nat.zero_le _) (Nat.zero_le _), fun t y => by simp [val]⟩
  | i + 1 => by
    obtain ⟨h1, h2⟩ := prodI_ok hA hB i
    cases q : A[i]? with
    | none =>
      have hq : A.length ≤ i := List.getElem?_eq_none_iff.mp q
      have e : A.take (i + 1) = A.take i := by rw [List.take_of_length_le hq, List.take_of_length_le (by omega)]
      rw [e]
      exact ⟨h1.mono (Nat.le_refl _) (Nat.le_refl _) (Nat.le_refl _) (by rw [Nat.add_mul]; omega), h2⟩
    | some e =>
      have he := List.mem_of_getElem? q
      have ht : A.take (i + 1) = A.take i ++ [e] := by rw [List.take_succ, q]; rfl
      obtain ⟨z1, z2⟩ := rowP_ok (e1 := e) (f := (A.take i).foldl (rowP B) []) (hA.kb e he) h1 B hB.kb
      rw [ht, List.foldl_append]
      show OkI _ _ _ _ (B.foldl (stepP e) ((A.take i).foldl (rowP B) [])) ∧ ∀ t y, val (B.foldl (stepP e) ((A.take i).foldl (rowP B) [])) t y = _
      refine ⟨z1.mono (Nat.le_refl _) (Nat.le_refl _) ?_ (by rw [Nat.add_mul]; omega), fun t y => ?_⟩
      · rw [VN_app, Nat.add_mul]
        show _ ≤ _ + (e.2.natAbs + 0) * VN B
        rw [Nat.add_zero]
        exact Nat.le_refl _
      · rw [z2, h2, val_app]
        show _ = (val (A.take i) t y + (e.2 * (t ^ e.1.1 * y ^ e.1.2) + 0)) * val B t y
        grind
end T92
end

section
set_option maxRecDepth 100000
set_option maxHeartbeats 4000000
namespace T92
open PySem L2 Pe
theorem keys_at {E : EI} {i : Nat} {x : D} (h : ((E.map fun e => (kN e.1, PyData.int e.2)).map (·.1))[i]? = some x) : ∃ e, E[i]? = some e ∧ x = .tuple [.int e.1.1, .int e.1.2] := by
  rw [List.map_map, List.getElem?_map] at h
  obtain ⟨e, h1, rfl⟩ := Option.map_eq_some_iff.mp h
  exact ⟨e, h1, rfl⟩
theorem kN_plus (p q : Nat × Nat) : PyData.tuple [.int ((p.1 : Int) + q.1), .int ((p.2 : Int) + q.2)] = kN (p.1 + q.1, p.2 + q.2) := by
  unfold kN
  rw [Int.natCast_add, Int.natCast_add]
theorem f_product {I J I' J' b b' n n' k k' : Nat} {A B : EI} (hA : OkI I J b n A) (hB : OkI I' J' b' n' B) (hb : b ≤ 2 ^ k) (hb' : b' ≤ 2 ^ k') (hk : k + k' ≤ 2 ^ 20) (hn : n * n' ≤ 2 ^ 20) : Does 1 16 [dicI A, dicI B] (dicI (prodI A B)) := by
  refine does_of (fn := fn16) rfl rfl fun n0 hn0 => ?_
  have big : 2 ^ 22 < sizeLine := by decide
  conv => whnf
  refine ⟨⟨rfl, by decide⟩, ?_⟩
  conv => whnf
  refine for_rule (fun i ρ => ∃ s3 s4 s5 s6, ρ = [.im (dicI A), .im (dicI B), .own (dicI ((A.take i).foldl (rowP B) [])), s3, s4, s5, s6]) (fun i x ρ N hx hI hN => ?_) (fun ρ hI => ?_) ⟨_, _, _, _, rfl⟩
  · obtain ⟨s3, s4, s5, s6, rfl⟩ := hI
    obtain ⟨e1, he1, rfl⟩ := keys_at hx
    have hi := (List.getElem?_eq_some_iff.mp he1).1
    have m1 := List.mem_of_getElem? he1
    have ht : A.take (i + 1) = A.take i ++ [e1] := by rw [List.take_succ, he1]; rfl
    obtain ⟨g1, -⟩ := prodI_ok hA hB i
    conv => whnf
    refine for_rule (fun j ρ => ∃ s5 s6, ρ = [.im (dicI A), .im (dicI B), .own (dicI ((B.take j).foldl (stepP e1) ((A.take i).foldl (rowP B) []))), .im (.int e1.1.1), .im (.int e1.1.2), s5, s6]) (fun j x ρ N' hx hI hN' => ?_) (fun ρ hI => ?_) ⟨_, _, rfl⟩
    · obtain ⟨s5, s6, rfl⟩ := hI
      obtain ⟨e2, he2, rfl⟩ := keys_at hx
      have hj := (List.getElem?_eq_some_iff.mp he2).1
      have m2 := List.mem_of_getElem? he2
      have ht2 : B.take (j + 1) = B.take j ++ [e2] := by rw [List.take_succ, he2]; rfl
      obtain ⟨g2, -⟩ := rowP_ok (e1 := e1) (f := (A.take i).foldl (rowP B) []) (hA.kb e1 m1) g1 (B.take j) fun e he => hB.kb e (List.mem_of_mem_take he)
      have next : (B.take (j + 1)).foldl (stepP e1) ((A.take i).foldl (rowP B) []) = stepP e1 ((B.take j).foldl (stepP e1) ((A.take i).foldl (rowP B) [])) e2 := by
        rw [ht2, List.foldl_append]
        rfl
      generalize (B.take j).foldl (stepP e1) ((A.take i).foldl (rowP B) []) = f at g2 next ⊢
      conv => whnf
      refine ⟨trivial, ?_⟩
      conv => whnf
      refine ⟨by show 2 ≤ sizeLine; decide, ?_⟩
      conv => whnf
      refine ⟨by show isKey _ = true; rw [kN_plus]; exact kN_key _, ?_⟩
      rw [kN_plus, getD_I]
      conv => whnf
      refine ⟨by show 2 ≤ sizeLine; decide, ?_⟩
      conv => whnf
      refine ⟨kN_key e1.1, _, getD_some A e1.1 (List.mem_map_of_mem m1), ?_⟩
      rw [lookI_mem hA.no m1]
      conv => whnf
      refine ⟨by show 2 ≤ sizeLine; decide, ?_⟩
      conv => whnf
      refine ⟨kN_key e2.1, _, getD_some B e2.1 (List.mem_map_of_mem m2), ?_⟩
      rw [lookI_mem hB.no m2]
      conv => whnf
      have v1 := mem_le m1
      have v2 := mem_le m2
      refine ⟨mul_ok (k := k) (k' := k') (Nat.le_trans v1 (Nat.le_trans hA.vn hb)) (Nat.le_trans v2 (Nat.le_trans hB.vn hb')) (by omega), ?_⟩
      conv => whnf
      refine ⟨by show 2 ≤ sizeLine; decide, ?_⟩
      conv => whnf
      refine ⟨by show isKey _ = true; rw [kN_plus]; exact kN_key _, ?_, ?_⟩
      · have l1 := g2.len
        have l2 : (B.take j).length ≤ j := by rw [List.length_take]; omega
        have l3 : i * B.length ≤ n * n' := Nat.mul_le_mul (by have := hA.len; omega) hB.len
        have l4 : (i + 1) * B.length ≤ n * n' := Nat.mul_le_mul (by have := hA.len; omega) hB.len
        rw [Nat.add_mul] at l4
        rw [List.length_map]
        omega
      · refine hN' _ ?_
        rw [kN_plus, putD_I, next]
        exact ⟨_, _, rfl⟩
    · obtain ⟨s5, s6, rfl⟩ := hI
      rw [List.length_map, List.length_map, List.take_length]
      refine hN _ ?_
      rw [ht, List.foldl_append]
      exact ⟨_, _, _, _, rfl⟩
  · obtain ⟨s3, s4, s5, s6, rfl⟩ := hI
    rw [List.length_map, List.length_map, List.take_length]
    conv => whnf
    rfl
theorem prod_ok {I J I' J' b b' n n' : Nat} {A B : EI} (hA : OkI I J b n A) (hB : OkI I' J' b' n' B) : OkI (I + I') (J + J') (b * b') (n * n') (prodI A B) ∧ ∀ t y, val (prodI A B) t y = val A t y * val B t y := by
  obtain ⟨h1, h2⟩ := prodI_ok hA hB A.length
  rw [List.take_length] at h1 h2
  exact ⟨h1.mono (Nat.le_refl _) (Nat.le_refl _) (Nat.mul_le_mul hA.vn hB.vn) (Nat.mul_le_mul hA.len hB.len), h2⟩
def lineI (xs : List Int) : EI := [((0, 0), (xs.getD 0 0).fmod 11 - 5), ((1, 0), (xs.getD 1 0).fmod 7 - 3), ((0, 1), (xs.getD 2 0).fmod 5 - 2)]
theorem lineI_ok (xs : List Int) : OkI 1 1 16 3 (lineI xs) where
  no := by simp [NoI, lineI]
  kb := fun e he => by
    simp only [lineI, List.mem_cons, List.not_mem_nil, or_false] at he
    rcases he with rfl | rfl | rfl <;> constructor <;> simp
  vn := by
    have a1 := fm_lo (xs.getD 0 0) (b := 11) (by decide)
    have a2 := fm_hi (xs.getD 0 0) (b := 11) (by decide)
    have b1 := fm_lo (xs.getD 1 0) (b := 7) (by decide)
    have b2 := fm_hi (xs.getD 1 0) (b := 7) (by decide)
    have c1 := fm_lo (xs.getD 2 0) (b := 5) (by decide)
    have c2 := fm_hi (xs.getD 2 0) (b := 5) (by decide)
    show ((xs.getD 0 0).fmod 11 - 5).natAbs + (((xs.getD 1 0).fmod 7 - 3).natAbs + (((xs.getD 2 0).fmod 5 - 2).natAbs + 0)) ≤ 16
    omega
  len := Nat.le_refl 3
theorem put_new (kvs : List (D × D)) (p : Nat × Nat) (v : D) (h : (kvs.any fun q => eqd q.1 (kN p)) = false) : putD kvs (kN p) v = kvs ++ [(kN p, v)] := by
  unfold Pe.putD
  rw [h]
  rfl
theorem f_line (xs : List Int) (h : 3 ≤ xs.length) : Does 1 17 [.list (xs.map .int)] (dicI (lineI xs)) := by
  refine does_of (fn := fn17) rfl rfl fun n0 hn0 => ?_
  conv => whnf
  refine ⟨by show 2 ≤ sizeLine; decide, ?_⟩
  conv => whnf
  refine ⟨_, _, rfl, at_nat (i := 0) (getD_int xs 0 (by omega)), ?_⟩
  conv => whnf
  refine ⟨by decide, ?_⟩
  conv => whnf
  refine ⟨by show 2 ≤ sizeLine; decide, ?_⟩
  conv => whnf
  refine ⟨_, _, rfl, at_nat (i := 1) (getD_int xs 1 (by omega)), ?_⟩
  conv => whnf
  refine ⟨by decide, ?_⟩
  conv => whnf
  refine ⟨by show 2 ≤ sizeLine; decide, ?_⟩
  conv => whnf
  refine ⟨_, _, rfl, at_nat (i := 2) (getD_int xs 2 (by omega)), ?_⟩
  conv => whnf
  refine ⟨by decide, ?_⟩
  conv => whnf
  refine ⟨⟨rfl, by show 6 ≤ 30; decide⟩, ?_⟩
  conv => whnf
  refine congrArg (fun x => Res.val (PyData.dict x)) ?_
  have e : ∀ a b c : D, putsD [] [kN (0, 0), a, kN (1, 0), b, kN (0, 1), c] = [(kN (0, 0), a), (kN (1, 0), b), (kN (0, 1), c)] := fun a b c => by
    unfold putsD putsD putsD putsD
    rw [put_new [] (0, 0) a rfl, put_new _ (1, 0) b (by simp [kN_eq]), put_new _ (0, 1) c (by simp [kN_eq])]
    rfl
  exact (e _ _ _).symm
end T92
end

section
set_option maxRecDepth 100000
set_option maxHeartbeats 4000000
namespace T92
open PySem L2 Pe
def spots : List (Nat × Nat) := [(0, 0), (1, 0), (0, 1), (2, 0), (1, 1), (0, 2)]
def csz (xs : List Int) : Int := 1 + (xs.getD 0 0).fmod 4
def stepC (xs : List Int) (E : EI) (k : Nat) : EI := if 0 < ((xs.getD (1 + k) 0).fdiv 16).fmod 3 then putI E (spots.getD k (0, 0)) ((xs.getD (1 + k) 0).fmod (2 * csz xs + 1) - csz xs) else E
def conicI (xs : List Int) (n : Nat) : EI := (List.range n).foldl (stepC xs) []
theorem csz_le (xs : List Int) : 1 ≤ csz xs ∧ csz xs ≤ 4 := by
  have a1 := fm_lo (xs.getD 0 0) (b := 4) (by decide)
  have a2 := fm_hi (xs.getD 0 0) (b := 4) (by decide)
  unfold csz
  omega
theorem conic_ok (xs : List Int) : ∀ n, n ≤ 6 → OkI 2 2 (8 * n) n (conicI xs n)
  | 0, _ => (okI_nil (I := 2) (J := 2)).mono (Nat.le_refl _) (Nat.le_refl _) (Nat.le_refl _) (Nat.le_refl _)
  | n + 1, h => by
    have ih := conic_ok xs n (by omega)
    have sp : (spots.getD n (0, 0)).1 ≤ 2 ∧ (spots.getD n (0, 0)).2 ≤ 2 := by
      match n, h with
      | 0, _ => decide
      | 1, _ => decide
      | 2, _ => decide
      | 3, _ => decide
      | 4, _ => decide
      | 5, _ => decide
    unfold conicI at ih ⊢
    rw [List.range_succ, List.foldl_append]
    show OkI 2 2 _ _ (stepC xs _ n)
    unfold stepC
    have c := csz_le xs
    split
    · refine (okI_put ih sp.1 sp.2 (z := 8) ?_).mono (Nat.le_refl _) (Nat.le_refl _) (by omega) (Nat.le_refl _)
      have a1 := fm_lo (xs.getD (1 + n) 0) (b := 2 * csz xs + 1) (by omega)
      have a2 := fm_hi (xs.getD (1 + n) 0) (b := 2 * csz xs + 1) (by omega)
      omega
    · exact ih.mono (Nat.le_refl _) (Nat.le_refl _) (by omega) (by omega)
theorem div_ok16 (x : Int) : divOk x 16 := ⟨by decide, by
  unfold Builtin.divisionGoesByPylong
  rfl⟩
theorem spots_at {k : Nat} (h : k < 6) : (spots.map kN)[k]? = some (kN (spots.getD k (0, 0))) := by
  match k, h with
  | 0, _ => rfl
  | 1, _ => rfl
  | 2, _ => rfl
  | 3, _ => rfl
  | 4, _ => rfl
  | 5, _ => rfl
theorem f_conic (xs : List Int) (h : 7 ≤ xs.length) : Does 1 18 [.list (xs.map .int)] (dicI (conicI xs 6)) := by
  refine does_of (fn := fn18) rfl rfl fun n0 hn0 => ?_
  have big : 2 ^ 22 < sizeLine := by decide
  have c := csz_le xs
  conv => whnf
  refine ⟨_, _, rfl, at_nat (i := 0) (getD_int xs 0 (by omega)), ?_⟩
  conv => whnf
  refine ⟨by decide, ?_⟩
  conv => whnf
  refine ⟨⟨rfl, by decide⟩, ?_⟩
  conv => whnf
  refine ⟨by show 2 ≤ sizeLine; decide, ?_⟩
  conv => whnf
  refine ⟨by show 2 ≤ sizeLine; decide, ?_⟩
  conv => whnf
  refine ⟨by show 2 ≤ sizeLine; decide, ?_⟩
  conv => whnf
  refine ⟨by show 2 ≤ sizeLine; decide, ?_⟩
  conv => whnf
  refine ⟨by show 2 ≤ sizeLine; decide, ?_⟩
  conv => whnf
  refine ⟨by show 2 ≤ sizeLine; decide, ?_⟩
  conv => whnf
  refine ⟨by show 6 ≤ sizeLine; decide, ?_⟩
  conv => whnf
  refine ⟨⟨by decide, by decide⟩, ?_⟩
  refine for_rule (fun i ρ => ∃ s4, ρ = [.im (.list (xs.map .int)), .im (.int (csz xs)), .own (dicI (conicI xs i)), .own (.list (spots.map kN)), s4]) (fun i x ρ N hx hI hN => ?_) (fun ρ hI => ?_) ⟨_, rfl⟩
  · obtain ⟨hi, rfl⟩ := rgD_at hx
    have hi : i < 6 := hi
    obtain ⟨s4, rfl⟩ := hI
    rw [Int.zero_add]
    have next : conicI xs (i + 1) = stepC xs (conicI xs i) i := by
      unfold conicI
      rw [List.range_succ, List.foldl_append]
      rfl
    have e1 : (1 : Int) + (i : Int) = ((1 + i : Nat) : Int) := by omega
    have g := conic_ok xs i (by omega)
    conv => whnf
    refine ⟨_, _, rfl, (by rw [e1]; exact at_nat (getD_int xs (1 + i) (by omega))), ?_⟩
    conv => whnf
    refine ⟨div_ok16 _, ?_⟩
    conv => whnf
    refine ⟨by decide, ?_⟩
    conv => whnf
    refine ⟨_, _, rfl, rfl, ?_⟩
    conv => whnf
    refine ⟨_, rfl, ?_⟩
    by_cases hp : 0 < ((xs.getD (1 + i) 0).fdiv 16).fmod 3
    · refine ifT (decide_eq_true hp) ?_
      conv => whnf
      refine ⟨_, _, rfl, (by rw [e1]; exact at_nat (getD_int xs (1 + i) (by omega))), ?_⟩
      conv => whnf
      refine ⟨mul_l (by decide) (by decide), ?_⟩
      conv => whnf
      refine ⟨by omega, ?_⟩
      conv => whnf
      refine ⟨_, _, rfl, at_nat (spots_at hi), ?_⟩
      conv => whnf
      refine ⟨kN_key _, by rw [List.length_map]; have := g.len; omega, ?_⟩
      refine hN _ ?_
      rw [next]
      unfold stepC
      rw [if_pos hp, putD_I]
      exact ⟨_, rfl⟩
    · refine ifF (decide_eq_false hp) ?_
      conv => whnf
      refine hN _ ?_
      rw [next]
      unfold stepC
      rw [if_neg hp]
      exact ⟨_, rfl⟩
  · obtain ⟨s4, rfl⟩ := hI
    rw [rgD_len]
    conv => whnf
    rfl
/-! boards of dicts -/
def cofI (E : EI) (k n : Nat) : List Int := (List.range n).map fun i => lookI E (i, k)
def rowI (E : EI) (k : Nat) : List Int := trim (cofI E k 9)
def rowsI (E : EI) (n : Nat) : Bd := (List.range n).map (rowI E)
def boardI (E : EI) : Bd := cutB (rowsI E 9)
theorem kN_key2 (i k : Nat) : isKey (PyData.tuple [.int i, .int k]) = true := kN_key (i, k)
theorem depth_rows : ∀ F : Bd, PyData.depthAll (F.map rowD) ≤ 1
  | [] => Nat.zero_le _
  | l :: F => by
    rw [List.map_cons]
    unfold PyData.depthAll
    have := depth_rows F
    have e : (rowD l).depth = 1 := by
      rw [rowD_eq]
      unfold PyData.depth
      rw [depth_ints]
    rw [e]
    omega
theorem lay_rows : ∀ F : Bd, PyData.canLayAll0 (F.map rowD) = true
  | [] => rfl
  | l :: F => by
    rw [List.map_cons]
    unfold PyData.canLayAll0
    rw [lay_rows F, rowD_eq]
    have e : (PyData.tuple (l.map .int)).canLay0 = true := by
      unfold PyData.canLay0
      exact lay_ints l
    rw [e]
    rfl
theorem rows_ok (F : Bd) : okEq (.list (F.map rowD)) := by
  unfold okEq
  have e1 : (PyData.list (F.map rowD)).canLay0 = true := by
    unfold PyData.canLay0
    exact lay_rows F
  have e2 : (PyData.list (F.map rowD)).depth ≤ 64 := by
    unfold PyData.depth
    have := depth_rows F
    omega
  unfold SeqAt.shaped
  rw [e1, decide_eq_true e2]
  rfl
theorem rows_emp (F : Bd) : eqd (.list (F.map rowD)) (.list []) = decide (F = []) := by
  show PyData.eqv (.list _) (.list _) = _
  rw [PyData.eqv]
  cases F with
  | nil => simp [PyData.eqvAll]
  | cons l F => simp [PyData.eqvAll]
theorem f_board_of {I J B n : Nat} {E : EI} (hE : OkI I J B n E) : Does 2 15 [dicI E] (boardD (boardI E)) := by
  refine does_of (fn := fn15) rfl rfl fun n0 hn0 => ?_
  have big : 2 ^ 22 < sizeLine := by decide
  conv => whnf
  refine ⟨by decide, ?_⟩
  conv => whnf
  refine ⟨⟨by decide, by decide⟩, ?_⟩
  refine for_rule (fun k ρ => ∃ s2 s3, ρ = [.im (dicI E), .own (.list ((rowsI E k).map rowD)), s2, s3]) (fun k x ρ N hx hI hN => ?_) (fun ρ hI => ?_) ⟨_, _, rfl⟩
  · obtain ⟨hk, rfl⟩ := rgD_at hx
    have hk : k < 9 := hk
    obtain ⟨s2, s3, rfl⟩ := hI
    rw [Int.zero_add]
    conv => whnf
    refine ⟨⟨by decide, by decide⟩, ?_⟩
    refine comp_rule (fun i acc ρ => acc = (cofI E k i).map .int ∧ ∃ s3, ρ = [.im (dicI E), .own (.list ((rowsI E k).map rowD)), .im (.int k), s3]) (fun i x acc ρ N' hx hI hN' => ?_) (fun acc ρ hI => ?_) ⟨rfl, _, rfl⟩
    · obtain ⟨hi, rfl⟩ := rgD_at hx
      have hi : i < 9 := hi
      obtain ⟨rfl, s3, rfl⟩ := hI
      rw [Int.zero_add]
      conv => whnf
      refine ⟨_, rfl, ?_⟩
      refine ifT rfl ?_
      conv => whnf
      refine ⟨trivial, ?_⟩
      conv => whnf
      refine ⟨by show 2 ≤ sizeLine; decide, ?_⟩
      conv => whnf
      refine ⟨kN_key2 i k, ?_⟩
      rw [show PyData.tuple [.int i, .int k] = kN (i, k) from rfl, getD_I]
      conv => whnf
      refine ⟨by unfold cofI; rw [List.length_map, List.length_map, List.length_range]; omega, hN' _ _ ⟨?_, _, rfl⟩⟩
      unfold cofI
      rw [List.range_succ, List.map_append, List.map_append]
      rfl
    · obtain ⟨rfl, s3, rfl⟩ := hI
      rw [rgD_len]
      conv => whnf
      refine ⟨_, f_trim (cofI E k 9) n0 (by omega), ?_⟩
      conv => whnf
      refine ⟨by unfold rowsI; rw [List.length_map, List.length_map, List.length_range]; omega, ?_⟩
      refine hN _ ?_
      have e : (rowsI E (k + 1)).map rowD = (rowsI E k).map rowD ++ [rowD (rowI E k)] := by
        unfold rowsI
        rw [List.range_succ, List.map_append, List.map_append]
        rfl
      rw [e]
      exact ⟨_, _, rfl⟩
  · obtain ⟨s2, s3, rfl⟩ := hI
    rw [rgD_len]
    conv => whnf
    generalize hF : rowsI E 9 = F
    have hB : boardI E = cutB F := by
      unfold boardI
      rw [hF]
    rw [hB]
    refine whl_rule (fun e ρ => e ≤ F.length ∧ ce F F.length = ce F e ∧ ∃ s2 s3, ρ = [.im (dicI E), .own (.list ((F.take e).map rowD)), s2, s3]) (fun m ρ N hI hN => ?_) (m := F.length) ⟨Nat.le_refl _, rfl, s2, s3, by rw [List.take_length, ← hF]; rfl⟩
    obtain ⟨h1, h2, s2, s3, rfl⟩ := hI
    have hlen : (F.take m).length = m := by rw [List.length_take, Nat.min_eq_left h1]
    conv => whnf
    refine ⟨by decide, ?_⟩
    conv => whnf
    refine ⟨rows_ok _, rows_ok [], ?_⟩
    rw [rows_emp]
    conv => whnf
    refine ⟨_, rfl, ?_⟩
    cases m with
    | zero =>
      refine ifF (by rw [List.take_zero]; rfl) ?_
      conv => whnf
      refine ⟨_, rfl, ?_⟩
      refine ifF rfl ?_
      conv => whnf
      unfold boardD cutB
      rw [h2]
      rfl
    | succ m =>
      have hne : F.take (m + 1) ≠ [] := fun z => by
        rw [z] at hlen
        cases hlen
      refine ifT (by rw [decide_eq_false hne]; rfl) ?_
      have e1 : (((F.take (m + 1)).map rowD).length : Int) - 1 = (m : Int) := by
        rw [List.length_map, hlen]
        omega
      have e2 : (F.take (m + 1)).getD m [] = F.getD m [] := by
        rw [List.getD_eq_getElem?_getD, List.getElem?_take, if_pos (by omega), ← List.getD_eq_getElem?_getD]
      conv => whnf
      refine ⟨_, _, rfl, (by rw [e1]; exact at_nat (at_rows (by omega))), ?_⟩
      rw [e2]
      conv => whnf
      refine ⟨by decide, ?_⟩
      conv => whnf
      refine ⟨row_ok _, emp_ok, ?_⟩
      rw [row_emp]
      conv => whnf
      refine ⟨_, rfl, ?_⟩
      by_cases hz : F.getD m [] = []
      · refine ifT (decide_eq_true hz) ?_
        conv => whnf
        refine ⟨rowD (F.getD m []), ?_, ?_⟩
        · rw [List.length_map, hlen]
          have := at_rows (ls := F.take (m + 1)) (c := m) (by omega)
          rw [e2] at this
          exact this
        · refine hN m _ (Nat.lt_succ_self m) ⟨by omega, ?_, s2, s3, ?_⟩
          · rw [h2]
            show (if F.getD m [] = [] then ce F m else m + 1) = _
            rw [if_pos hz]
          · have e3 : ((F.take (m + 1)).map rowD).dropLast = (F.take m).map rowD := by
              rw [List.dropLast_eq_take, List.length_map, hlen, ← List.map_take, List.take_take]
              congr 2
              omega
            rw [e3]
            rfl
      · refine ifF (decide_eq_false hz) ?_
        conv => whnf
        unfold boardD cutB
        have : ce F (m + 1) = m + 1 := by
          show (if F.getD m [] = [] then ce F m else m + 1) = _
          rw [if_neg hz]
        rw [h2, this]
end T92
end

section
set_option maxRecDepth 100000
set_option maxHeartbeats 4000000
namespace T92
open PySem L2 Pe
theorem drop_int (xs : List Int) (a : Nat) (h : a ≤ xs.length) : Pe.cutD (xs.map .int) (some (a : Int)) none = (xs.drop a).map .int := by
  rw [cut_from _ a (by rw [map_len]; exact h), List.map_drop]
theorem disp3 {p q r : Nat × Nat} {a b c : Int} (h1 : p ≠ q) (h2 : p ≠ r) (h3 : q ≠ r) : putsD [] [kN p, .int a, kN q, .int b, kN r, .int c] = ([(p, a), (q, b), (r, c)] : EI).map fun e => (kN e.1, PyData.int e.2) := by
  unfold putsD putsD putsD putsD
  rw [put_new [] p _ rfl, put_new _ q _ (by simp [kN_eq, h1]), put_new _ r _ (by simp [kN_eq, h2, h3])]
  rfl
theorem disp2 {p q : Nat × Nat} {a b : Int} (h1 : p ≠ q) : putsD [] [kN p, .int a, kN q, .int b] = ([(p, a), (q, b)] : EI).map fun e => (kN e.1, PyData.int e.2) := by
  unfold putsD putsD putsD
  rw [put_new [] p _ rfl, put_new _ q _ (by simp [kN_eq, h1])]
  rfl
theorem ok3 {p q r : Nat × Nat} {a b c : Int} (h1 : p ≠ q) (h2 : p ≠ r) (h3 : q ≠ r) (hp : p.1 ≤ 2 ∧ p.2 ≤ 2) (hq : q.1 ≤ 2 ∧ q.2 ≤ 2) (hr : r.1 ≤ 2 ∧ r.2 ≤ 2) (ha : a.natAbs ≤ 11) (hb : b.natAbs ≤ 11) (hc : c.natAbs ≤ 11) : OkI 2 2 33 3 [(p, a), (q, b), (r, c)] where
  no := by simp [NoI, h1, h2, h3]
  kb := fun e he => by
    simp only [List.mem_cons, List.not_mem_nil, or_false] at he
    rcases he with rfl | rfl | rfl
    · exact hp
    · exact hq
    · exact hr
  vn := by
    show a.natAbs + (b.natAbs + (c.natAbs + 0)) ≤ 33
    omega
  len := Nat.le_refl 3
/-! the helpers' boards -/
theorem f_board (cell : Int) : ∃ E, OkI 2 2 300 20 E ∧ Does 3 19 [.int cell] (boardD (boardI E)) := by
  obtain ⟨s0, d0, fx⟩ := f_numbers cell 12 (by decide)
  have hl := nums_len s0 d0 12
  generalize nums s0 d0 12 = xs at fx hl
  have at0 := getD_int xs 0 (by omega)
  have at1 := getD_int xs 1 (by omega)
  have at2 := getD_int xs 2 (by omega)
  have at3 := getD_int xs 3 (by omega)
  have d1 : Pe.cutD (xs.map .int) (some 1) none = (xs.drop 1).map .int := drop_int xs 1 (by omega)
  have d4 : Pe.cutD (xs.map .int) (some 4) none = (xs.drop 4).map .int := drop_int xs 4 (by omega)
  have l1 : (xs.drop 1).length = 11 := by rw [List.length_drop, hl]
  have l4 : (xs.drop 4).length = 8 := by rw [List.length_drop, hl]
  generalize hx0 : xs.getD 0 0 = x0 at at0
  generalize hx1 : xs.getD 1 0 = x1 at at1
  generalize hx2 : xs.getD 2 0 = x2 at at2
  generalize hx3 : xs.getD 3 0 = x3 at at3
  -- the road to the way
  have road : ∀ E, (∀ n, 2 ≤ n → wpB Gc (CC n) (match fn19.body with | .cons _ (.cons _ r) => r | _ => .nil) [.im (.int cell), .im (.list (xs.map .int)), .im (.int (x0.fmod 8))] ⟨fun _ => Res.val (boardD (boardI E)) = .val .none, fun e => Res.val (boardD (boardI E)) = .val e, fun _ => False, fun _ => False, fun c => Res.val (boardD (boardI E)) = .exc c⟩) → Does 3 19 [.int cell] (boardD (boardI E)) := fun E h => by
    refine does_of (fn := fn19) rfl rfl fun n hn => ?_
    conv => whnf
    refine ⟨_, fx n (by omega), ?_⟩
    conv => whnf
    refine ⟨_, _, rfl, at_nat (i := 0) at0, ?_⟩
    conv => whnf
    refine ⟨by decide, ?_⟩
    exact h n hn
  generalize x0.fmod 8 = way at road
  have b1 := fm_lo x1 (b := 11) (by decide)
  have b2 := fm_hi x1 (b := 11) (by decide)
  have b3 := fm_lo x2 (b := 7) (by decide)
  have b4 := fm_hi x2 (b := 7) (by decide)
  have b5 := fm_lo x3 (b := 5) (by decide)
  have b6 := fm_hi x3 (b := 5) (by decide)
  have b7 := fm_lo x1 (b := 5) (by decide)
  have b8 := fm_hi x1 (b := 5) (by decide)
  have b9 := fm_lo x1 (b := 10) (by decide)
  have b10 := fm_hi x1 (b := 10) (by decide)
  have b11 := fm_lo x2 (b := 2) (by decide)
  have b12 := fm_hi x2 (b := 2) (by decide)
  have b13 := fm_lo x3 (b := 2) (by decide)
  have b14 := fm_hi x3 (b := 2) (by decide)
  have ln1 := lineI_ok (xs.drop 1)
  have ln4 := lineI_ok (xs.drop 4)
  by_cases w1 : way < 2
  · have ok := conic_ok (xs.drop 1) 6 (Nat.le_refl _)
    refine ⟨_, ok.mono (Nat.le_refl _) (Nat.le_refl _) (by decide) (by decide), road _ fun n hn => ?_⟩
    (conv => whnf); refine ⟨_, _, rfl, rfl, ?_⟩; (conv => whnf); refine ⟨_, rfl, ?_⟩; refine ifT (decide_eq_true w1) ?_
    conv => whnf
    refine ⟨_, rfl, _, rfl, ?_⟩
    conv => whnf
    refine ⟨_, (by rw [d1]; exact f_conic (xs.drop 1) (by omega) n (by omega)), ?_⟩
    conv => whnf
    refine ⟨_, f_board_of ok n (by omega), ?_⟩
    conv => whnf
  by_cases w2 : way = 2
  · have ok : OkI 2 2 33 3 [((0, 0), x1.fmod 11 - 5), ((1, 0), x2.fmod 7 - 3), ((2, 0), x3.fmod 5 - 2)] := ok3 (by decide) (by decide) (by decide) (by decide) (by decide) (by decide) (by omega) (by omega) (by omega)
    refine ⟨_, ok.mono (Nat.le_refl _) (Nat.le_refl _) (by decide) (by decide), road _ fun n hn => ?_⟩
    (conv => whnf); refine ⟨_, _, rfl, rfl, ?_⟩; (conv => whnf); refine ⟨_, rfl, ?_⟩; refine ifF (decide_eq_false w1) ?_
    (conv => whnf); refine ⟨shaped_int _, shaped_int _, ?_⟩; rw [ev_int]; (conv => whnf); refine ⟨_, rfl, ?_⟩; refine ifT (decide_eq_true w2) ?_
    (conv => whnf); refine ⟨by show 2 ≤ sizeLine; decide, ?_⟩
    conv => whnf
    refine ⟨_, _, rfl, at_nat (i := 1) at1, ?_⟩
    conv => whnf
    refine ⟨by decide, ?_⟩
    (conv => whnf); refine ⟨by show 2 ≤ sizeLine; decide, ?_⟩
    conv => whnf
    refine ⟨_, _, rfl, at_nat (i := 2) at2, ?_⟩
    conv => whnf
    refine ⟨by decide, ?_⟩
    (conv => whnf); refine ⟨by show 2 ≤ sizeLine; decide, ?_⟩
    conv => whnf
    refine ⟨_, _, rfl, at_nat (i := 3) at3, ?_⟩
    conv => whnf
    refine ⟨by decide, ?_⟩
    conv => whnf
    refine ⟨⟨rfl, by show 6 ≤ 30; decide⟩, ?_⟩
    conv => whnf
    have e := disp3 (p := (0, 0)) (q := (1, 0)) (r := (2, 0)) (a := x1.fmod 11 - 5) (b := x2.fmod 7 - 3) (c := x3.fmod 5 - 2) (by decide) (by decide) (by decide)
    have fb := f_board_of ok n (by omega)
    have e2 : dicI [((0, 0), x1.fmod 11 - 5), ((1, 0), x2.fmod 7 - 3), ((2, 0), x3.fmod 5 - 2)] = .dict (putsD [] [kN (0, 0), .int (x1.fmod 11 - 5), kN (1, 0), .int (x2.fmod 7 - 3), kN (2, 0), .int (x3.fmod 5 - 2)]) := by
      rw [e]
      rfl
    rw [e2] at fb
    refine ⟨_, fb, ?_⟩
    conv => whnf
  by_cases w3 : way = 3
  · obtain ⟨ok, -⟩ := prod_ok ln1 ln4
    refine ⟨_, ok.mono (Nat.le_refl _) (Nat.le_refl _) (by decide) (by decide), road _ fun n hn => ?_⟩
    (conv => whnf); refine ⟨_, _, rfl, rfl, ?_⟩; (conv => whnf); refine ⟨_, rfl, ?_⟩; refine ifF (decide_eq_false w1) ?_
    (conv => whnf); refine ⟨shaped_int _, shaped_int _, ?_⟩; rw [ev_int]; (conv => whnf); refine ⟨_, rfl, ?_⟩; refine ifF (decide_eq_false w2) ?_
    (conv => whnf); refine ⟨shaped_int _, shaped_int _, ?_⟩; rw [ev_int]; (conv => whnf); refine ⟨_, rfl, ?_⟩; refine ifT (decide_eq_true w3) ?_
    conv => whnf
    refine ⟨_, rfl, _, rfl, ?_⟩
    conv => whnf
    refine ⟨_, (by rw [d1]; exact f_line (xs.drop 1) (by omega) n (by omega)), ?_⟩
    conv => whnf
    refine ⟨_, rfl, _, rfl, ?_⟩
    conv => whnf
    refine ⟨_, (by rw [d4]; exact f_line (xs.drop 4) (by omega) n (by omega)), ?_⟩
    conv => whnf
    refine ⟨_, f_product ln1 ln4 (k := 4) (k' := 4) (by decide) (by decide) (by decide) (by decide) n (by omega), ?_⟩
    conv => whnf
    refine ⟨_, f_board_of ok n (by omega), ?_⟩
    conv => whnf
  by_cases w4 : way = 4
  · have ln := lineI_ok [x1, x2, x3]
    obtain ⟨ok, -⟩ := prod_ok ln1 ln
    refine ⟨_, ok.mono (Nat.le_refl _) (Nat.le_refl _) (by decide) (by decide), road _ fun n hn => ?_⟩
    (conv => whnf); refine ⟨_, _, rfl, rfl, ?_⟩; (conv => whnf); refine ⟨_, rfl, ?_⟩; refine ifF (decide_eq_false w1) ?_
    (conv => whnf); refine ⟨shaped_int _, shaped_int _, ?_⟩; rw [ev_int]; (conv => whnf); refine ⟨_, rfl, ?_⟩; refine ifF (decide_eq_false w2) ?_
    (conv => whnf); refine ⟨shaped_int _, shaped_int _, ?_⟩; rw [ev_int]; (conv => whnf); refine ⟨_, rfl, ?_⟩; refine ifF (decide_eq_false w3) ?_
    (conv => whnf); refine ⟨shaped_int _, shaped_int _, ?_⟩; rw [ev_int]; (conv => whnf); refine ⟨_, rfl, ?_⟩; refine ifT (decide_eq_true w4) ?_
    conv => whnf
    refine ⟨_, rfl, _, rfl, ?_⟩
    conv => whnf
    refine ⟨_, (by rw [d1]; exact f_line (xs.drop 1) (by omega) n (by omega)), ?_⟩
    conv => whnf
    refine ⟨_, _, rfl, at_nat (i := 1) at1, ?_⟩
    conv => whnf
    refine ⟨_, _, rfl, at_nat (i := 2) at2, ?_⟩
    conv => whnf
    refine ⟨_, _, rfl, at_nat (i := 3) at3, ?_⟩
    conv => whnf
    refine ⟨by show 3 ≤ sizeLine; decide, ?_⟩
    conv => whnf
    refine ⟨_, f_line [x1, x2, x3] (Nat.le_refl 3) n (by omega), ?_⟩
    conv => whnf
    refine ⟨_, f_product ln1 ln (k := 4) (k' := 4) (by decide) (by decide) (by decide) (by decide) n (by omega), ?_⟩
    conv => whnf
    refine ⟨_, f_board_of ok n (by omega), ?_⟩
    conv => whnf
  by_cases w5 : way = 5
  · have o2 : OkI 1 0 3 2 [((0, 0), x1.fmod 5 - 2), ((1, 0), 1)] := by
      refine ⟨by simp [NoI], fun e he => ?_, ?_, Nat.le_refl 2⟩
      · simp only [List.mem_cons, List.not_mem_nil, or_false] at he
        rcases he with rfl | rfl
        · exact ⟨Nat.zero_le _, Nat.le_refl _⟩
        · exact ⟨Nat.le_refl _, Nat.le_refl _⟩
      · show (x1.fmod 5 - 2).natAbs + ((1 : Int).natAbs + 0) ≤ 3
        omega
    obtain ⟨ok, -⟩ := prod_ok o2 ln4
    refine ⟨_, ok.mono (by decide) (by decide) (by decide) (by decide), road _ fun n hn => ?_⟩
    (conv => whnf); refine ⟨_, _, rfl, rfl, ?_⟩; (conv => whnf); refine ⟨_, rfl, ?_⟩; refine ifF (decide_eq_false w1) ?_
    (conv => whnf); refine ⟨shaped_int _, shaped_int _, ?_⟩; rw [ev_int]; (conv => whnf); refine ⟨_, rfl, ?_⟩; refine ifF (decide_eq_false w2) ?_
    (conv => whnf); refine ⟨shaped_int _, shaped_int _, ?_⟩; rw [ev_int]; (conv => whnf); refine ⟨_, rfl, ?_⟩; refine ifF (decide_eq_false w3) ?_
    (conv => whnf); refine ⟨shaped_int _, shaped_int _, ?_⟩; rw [ev_int]; (conv => whnf); refine ⟨_, rfl, ?_⟩; refine ifF (decide_eq_false w4) ?_
    (conv => whnf); refine ⟨shaped_int _, shaped_int _, ?_⟩; rw [ev_int]; (conv => whnf); refine ⟨_, rfl, ?_⟩; refine ifT (decide_eq_true w5) ?_
    (conv => whnf); refine ⟨by show 2 ≤ sizeLine; decide, ?_⟩
    conv => whnf
    refine ⟨_, _, rfl, at_nat (i := 1) at1, ?_⟩
    conv => whnf
    refine ⟨by decide, ?_⟩
    (conv => whnf); refine ⟨by show 2 ≤ sizeLine; decide, ?_⟩
    conv => whnf
    refine ⟨⟨rfl, by show 4 ≤ 30; decide⟩, ?_⟩
    conv => whnf
    refine ⟨_, rfl, _, rfl, ?_⟩
    conv => whnf
    refine ⟨_, (by rw [d4]; exact f_line (xs.drop 4) (by omega) n (by omega)), ?_⟩
    conv => whnf
    have e := disp2 (p := (0, 0)) (q := (1, 0)) (a := x1.fmod 5 - 2) (b := 1) (by decide)
    have fp := f_product o2 ln4 (k := 2) (k' := 4) (by decide) (by decide) (by decide) (by decide) n (by omega)
    have e2 : dicI [((0, 0), x1.fmod 5 - 2), ((1, 0), 1)] = .dict (putsD [] [kN (0, 0), .int (x1.fmod 5 - 2), kN (1, 0), .int 1]) := by
      rw [e]
      rfl
    rw [e2] at fp
    refine ⟨_, fp, ?_⟩
    conv => whnf
    refine ⟨_, f_board_of ok n (by omega), ?_⟩
    conv => whnf
  by_cases w6 : way = 6
  · have ok : OkI 2 2 33 3 [((0, 0), 0 - x1.fmod 10), ((2, 0), 1 + x2.fmod 2), ((0, 2), 1 + x3.fmod 2)] := ok3 (by decide) (by decide) (by decide) (by decide) (by decide) (by decide) (by omega) (by omega) (by omega)
    refine ⟨_, ok.mono (Nat.le_refl _) (Nat.le_refl _) (by decide) (by decide), road _ fun n hn => ?_⟩
    (conv => whnf); refine ⟨_, _, rfl, rfl, ?_⟩; (conv => whnf); refine ⟨_, rfl, ?_⟩; refine ifF (decide_eq_false w1) ?_
    (conv => whnf); refine ⟨shaped_int _, shaped_int _, ?_⟩; rw [ev_int]; (conv => whnf); refine ⟨_, rfl, ?_⟩; refine ifF (decide_eq_false w2) ?_
    (conv => whnf); refine ⟨shaped_int _, shaped_int _, ?_⟩; rw [ev_int]; (conv => whnf); refine ⟨_, rfl, ?_⟩; refine ifF (decide_eq_false w3) ?_
    (conv => whnf); refine ⟨shaped_int _, shaped_int _, ?_⟩; rw [ev_int]; (conv => whnf); refine ⟨_, rfl, ?_⟩; refine ifF (decide_eq_false w4) ?_
    (conv => whnf); refine ⟨shaped_int _, shaped_int _, ?_⟩; rw [ev_int]; (conv => whnf); refine ⟨_, rfl, ?_⟩; refine ifF (decide_eq_false w5) ?_
    (conv => whnf); refine ⟨shaped_int _, shaped_int _, ?_⟩; rw [ev_int]; (conv => whnf); refine ⟨_, rfl, ?_⟩; refine ifT (decide_eq_true w6) ?_
    (conv => whnf); refine ⟨by show 2 ≤ sizeLine; decide, ?_⟩
    conv => whnf
    refine ⟨_, _, rfl, at_nat (i := 1) at1, ?_⟩
    conv => whnf
    refine ⟨by decide, ?_⟩
    (conv => whnf); refine ⟨by show 2 ≤ sizeLine; decide, ?_⟩
    conv => whnf
    refine ⟨_, _, rfl, at_nat (i := 2) at2, ?_⟩
    conv => whnf
    refine ⟨by decide, ?_⟩
    (conv => whnf); refine ⟨by show 2 ≤ sizeLine; decide, ?_⟩
    conv => whnf
    refine ⟨_, _, rfl, at_nat (i := 3) at3, ?_⟩
    conv => whnf
    refine ⟨by decide, ?_⟩
    conv => whnf
    refine ⟨⟨rfl, by show 6 ≤ 30; decide⟩, ?_⟩
    conv => whnf
    have e := disp3 (p := (0, 0)) (q := (2, 0)) (r := (0, 2)) (a := 0 - x1.fmod 10) (b := 1 + x2.fmod 2) (c := 1 + x3.fmod 2) (by decide) (by decide) (by decide)
    have fb := f_board_of ok n (by omega)
    have e2 : dicI [((0, 0), 0 - x1.fmod 10), ((2, 0), 1 + x2.fmod 2), ((0, 2), 1 + x3.fmod 2)] = .dict (putsD [] [kN (0, 0), .int (0 - x1.fmod 10), kN (2, 0), .int (1 + x2.fmod 2), kN (0, 2), .int (1 + x3.fmod 2)]) := by
      rw [e]
      rfl
    rw [e2] at fb
    refine ⟨_, fb, ?_⟩
    conv => whnf
  · refine ⟨_, ln1.mono (by decide) (by decide) (by decide) (by decide), road _ fun n hn => ?_⟩
    (conv => whnf); refine ⟨_, _, rfl, rfl, ?_⟩; (conv => whnf); refine ⟨_, rfl, ?_⟩; refine ifF (decide_eq_false w1) ?_
    (conv => whnf); refine ⟨shaped_int _, shaped_int _, ?_⟩; rw [ev_int]; (conv => whnf); refine ⟨_, rfl, ?_⟩; refine ifF (decide_eq_false w2) ?_
    (conv => whnf); refine ⟨shaped_int _, shaped_int _, ?_⟩; rw [ev_int]; (conv => whnf); refine ⟨_, rfl, ?_⟩; refine ifF (decide_eq_false w3) ?_
    (conv => whnf); refine ⟨shaped_int _, shaped_int _, ?_⟩; rw [ev_int]; (conv => whnf); refine ⟨_, rfl, ?_⟩; refine ifF (decide_eq_false w4) ?_
    (conv => whnf); refine ⟨shaped_int _, shaped_int _, ?_⟩; rw [ev_int]; (conv => whnf); refine ⟨_, rfl, ?_⟩; refine ifF (decide_eq_false w5) ?_
    (conv => whnf); refine ⟨shaped_int _, shaped_int _, ?_⟩; rw [ev_int]; (conv => whnf); refine ⟨_, rfl, ?_⟩; refine ifF (decide_eq_false w6) ?_
    conv => whnf
    refine ⟨_, rfl, _, rfl, ?_⟩
    conv => whnf
    refine ⟨_, (by rw [d1]; exact f_line (xs.drop 1) (by omega) n (by omega)), ?_⟩
    conv => whnf
    refine ⟨_, f_board_of ln1 n (by omega), ?_⟩
    conv => whnf
/-! small rows -/
def gS (size x : Int) : Int := (x.fdiv 7).fmod size * (if x.fmod 3 = 0 then 1 else if x.fmod 3 = 1 then -1 else 0)
theorem div_ok7 (x : Int) : divOk x 7 := ⟨by decide, by
  unfold Builtin.divisionGoesByPylong
  rfl⟩
theorem gS_le {size : Int} (h1 : 2 ≤ size) (h2 : size ≤ 8) (x : Int) : (gS size x).natAbs ≤ 8 := by
  have a1 := fm_lo (x.fdiv 7) (b := size) (by omega)
  have a2 := fm_hi (x.fdiv 7) (b := size) (by omega)
  unfold gS
  split
  · omega
  · split <;> omega
theorem f_small (xs : List Int) (size : Int) (h1 : 2 ≤ size) (h2 : size ≤ 8) (h : xs.length ≤ 2 ^ 20) : Does 2 20 [.list (xs.map .int), .int size] (rowD (trim (xs.map (gS size)))) := by
  refine does_of (fn := fn20) rfl rfl fun n hn => ?_
  have big : 2 ^ 22 < sizeLine := by decide
  conv => whnf
  refine comp_rule (fun i acc ρ => acc = ((xs.take i).map (gS size)).map .int ∧ ∃ s2, ρ = [.im (.list (xs.map .int)), .im (.int size), s2]) (fun i x acc ρ N hx hI hN => ?_) (fun acc ρ hI => ?_) ⟨rfl, _, rfl⟩
  · obtain ⟨rfl, s2, rfl⟩ := hI
    rw [List.getElem?_map] at hx
    obtain ⟨v, hv, rfl⟩ := Option.map_eq_some_iff.mp hx
    have ht : xs.take (i + 1) = xs.take i ++ [v] := by rw [List.take_succ, hv]; rfl
    have hi := (List.getElem?_eq_some_iff.mp hv).1
    have m1 := fm_lo v (b := 3) (by decide)
    have m2 := fm_hi v (b := 3) (by decide)
    have a1 := fm_lo (v.fdiv 7) (b := size) (by omega)
    have a2 := fm_hi (v.fdiv 7) (b := size) (by omega)
    conv => whnf
    refine ⟨_, rfl, ?_⟩
    refine ifT rfl ?_
    conv => whnf
    refine ⟨div_ok7 _, ?_⟩
    conv => whnf
    refine ⟨by omega, ?_⟩
    conv => whnf
    refine ⟨_, rfl, ?_⟩
    conv => whnf
    refine ⟨by show 3 ≤ sizeLine; decide, ?_⟩
    conv => whnf
    refine ⟨by decide, ?_⟩
    conv => whnf
    refine ⟨_, .int (if v.fmod 3 = 0 then 1 else if v.fmod 3 = 1 then -1 else 0), rfl, ?_, ?_⟩
    · have : v.fmod 3 = 0 ∨ v.fmod 3 = 1 ∨ v.fmod 3 = 2 := by omega
      rcases this with e | e | e <;> rw [e]
      · exact at_nat (i := 0) rfl
      · exact at_nat (i := 1) rfl
      · exact at_nat (i := 2) rfl
    · conv => whnf
      refine ⟨mul_l (by omega) (by omega), ?_⟩
      conv => whnf
      refine ⟨by rw [List.length_map, List.length_map, List.length_take]; omega, hN _ _ ⟨?_, _, rfl⟩⟩
      rw [ht, List.map_append, List.map_append]
      rfl
  · obtain ⟨rfl, s2, rfl⟩ := hI
    rw [map_len, List.take_length]
    conv => whnf
    refine ⟨_, f_trim (xs.map (gS size)) n (by omega), ?_⟩
    conv => whnf
end T92
end

section
set_option maxRecDepth 100000
set_option maxHeartbeats 4000000
namespace T92
open PySem L2 Pe
theorem te_cap (cs : List Int) (m : Nat) (h : ∀ i, m ≤ i → cs.getD i 0 = 0) : ∀ e, te cs e ≤ m
  | 0 => Nat.zero_le _
  | e + 1 => by
    unfold te
    split
    · exact te_cap cs m h e
    · rename_i hz
      rcases Nat.lt_or_ge e m with h' | h'
      · omega
      · exact absurd (h e h') hz
theorem nm_all {b : Nat} : ∀ (cs : List Int), (∀ c ∈ cs, c.natAbs ≤ b) → nm cs ≤ cs.length * b
  | [], _ => Nat.zero_le _
  | c :: cs, h => by
    have h1 := h c List.mem_cons_self
    have h2 := nm_all cs fun c hc => h c (List.mem_cons_of_mem _ hc)
    show c.natAbs + nm cs ≤ (cs.length + 1) * b
    rw [Nat.add_mul]
    omega
theorem lookI_out {I J B n : Nat} {E : EI} (h : OkI I J B n E) {p : Nat × Nat} (hp : I < p.1 ∨ J < p.2) : lookI E p = 0 := lookI_no E p fun z => by
  obtain ⟨e, h1, h2⟩ := List.mem_map.mp z
  have := h.kb e h1
  rw [h2] at this
  omega
theorem cofI_get (E : EI) (k n i : Nat) : (cofI E k n).getD i 0 = if i < n then lookI E (i, k) else 0 := by
  unfold cofI
  rw [List.getD_eq_getElem?_getD, List.getElem?_map]
  split
  · rename_i h
    rw [List.getElem?_range h]
    rfl
  · rename_i h
    rw [List.getElem?_eq_none (by rw [List.length_range]; omega)]
    rfl
theorem rowI_ok {I J B n : Nat} {E : EI} (h : OkI I J B n E) (k : Nat) : Trimmed (rowI E k) ∧ (rowI E k).length ≤ I + 1 ∧ nm (rowI E k) ≤ 9 * B := by
  refine ⟨trim_trimmed _, ?_, ?_⟩
  · unfold rowI trim
    rw [List.length_take]
    have := te_cap (cofI E k 9) (I + 1) (fun i hi => by
      rw [cofI_get]
      split
      · exact lookI_out h (.inl (by show I < i; omega))
      · rfl) (cofI E k 9).length
    omega
  · unfold rowI
    refine Nat.le_trans (trim_nm _) ?_
    have := nm_all (b := B) (cofI E k 9) fun c hc => by
      unfold cofI at hc
      obtain ⟨i, _, rfl⟩ := List.mem_map.mp hc
      exact Nat.le_trans (lookI_le _ _) h.vn
    have e : (cofI E k 9).length = 9 := by
      unfold cofI
      rw [List.length_map, List.length_range]
    rw [e] at this
    exact this
structure GB (F : Bd) : Prop where
  len : F.length = 2 ∨ F.length = 3
  ok : BdOk 3 12 F
  top : F.getD (F.length - 1) [] ≠ []
theorem cut_top (F : Bd) {m : Nat} (h : (cutB F).length = m + 1) : (cutB F).getD m [] ≠ [] := by
  unfold cutB at h ⊢
  rw [List.length_take, Nat.min_eq_left (ce_le F _)] at h
  have z := ce_last F F.length m h
  rw [List.getD_eq_getElem?_getD, List.getElem?_take, if_pos (by omega), ← List.getD_eq_getElem?_getD]
  exact z
theorem boardI_gb {n : Nat} {E : EI} (h : OkI 2 2 300 n E) (hl : (boardI E).length = 2 ∨ (boardI E).length = 3) : GB (boardI E) where
  len := hl
  ok := by
    have hm : ∀ l ∈ boardI E, ∃ k, l = rowI E k := fun l hl => by
      unfold boardI cutB rowsI at hl
      obtain ⟨k, _, rfl⟩ := List.mem_map.mp (List.mem_of_mem_take hl)
      exact ⟨k, rfl⟩
    refine ⟨fun l hl => ?_, fun l hl => ?_⟩
    · obtain ⟨k, rfl⟩ := hm l hl
      exact (rowI_ok h k).1
    · obtain ⟨k, rfl⟩ := hm l hl
      have := (rowI_ok h k).2
      exact ⟨Nat.le_trans this.2 (by decide), this.1⟩
  top := by
    rcases hl with e | e
    · rw [e]
      exact cut_top (rowsI E 9) e
    · rw [e]
      exact cut_top (rowsI E 9) e
theorem at_last {xs : List D} {v : D} {n : Nat} (hn : xs.length = n + 1) (h : xs[n]? = some v) : atI xs (-1) = some v := by
  unfold L2.atI L2.ixN
  rw [if_neg (by decide), if_pos (by omega)]
  have : ((-1 : Int) + (xs.length : Int)).toNat = n := by omega
  rw [this]
  exact h
theorem ix_last (n : Nat) : L2.ixN (n + 1) (-1) = some n := by
  unfold L2.ixN
  rw [if_neg (by decide), if_pos (by omega)]
  congr 1
  omega
def smR (xs : List Int) (r : Nat) (size : Int) (k : Nat) : List Int := trim (((xs.drop (21 + 3 * k)).take (1 + r)).map (gS size))
def smRs (xs : List Int) (r : Nat) (size : Int) (n : Nat) : Bd := (List.range n).map (smR xs r size)
theorem smR_ok {xs : List Int} {r : Nat} {size : Int} (hr : r ≤ 2) (h1 : 2 ≤ size) (h2 : size ≤ 8) (k : Nat) : Trimmed (smR xs r size k) ∧ (smR xs r size k).length ≤ 3 ∧ nm (smR xs r size k) ≤ 24 := by
  have l : (((xs.drop (21 + 3 * k)).take (1 + r)).map (gS size)).length ≤ 3 := by
    rw [List.length_map, List.length_take]
    omega
  refine ⟨trim_trimmed _, Nat.le_trans (trim_len _) l, Nat.le_trans (trim_nm _) (Nat.le_trans (nm_all (b := 8) _ fun c hc => ?_) (by omega))⟩
  obtain ⟨v, _, rfl⟩ := List.mem_map.mp hc
  exact gS_le h1 h2 v
theorem f_drawn (cell : Int) : ∃ F, GB F ∧ Does 4 21 [.int cell] (boardD F) := by
  obtain ⟨s0, d0, fx⟩ := f_numbers cell 40 (by decide)
  have hl := nums_len s0 d0 40
  generalize nums s0 d0 40 = xs at fx hl
  obtain ⟨E, okE, fb⟩ := f_board cell
  have big : 2 ^ 22 < sizeLine := by decide
  have at20 := getD_int xs 20 (by omega)
  have at30 := getD_int xs 30 (by omega)
  have at31 := getD_int xs 31 (by omega)
  have at32 := getD_int xs 32 (by omega)
  have at39 := getD_int xs 39 (by omega)
  generalize hx20 : xs.getD 20 0 = x20 at at20
  generalize hx30 : xs.getD 30 0 = x30 at at30
  generalize hx31 : xs.getD 31 0 = x31 at at31
  generalize hx32 : xs.getD 32 0 = x32 at at32
  generalize hx39 : xs.getD 39 0 = x39 at at39
  have lenB : ((boardI E).map rowD).length = (boardI E).length := List.length_map ..
  have memB' : ∀ c : Int, memB (.int c) [.int 2, .int 3] = decide (c ∈ ([2, 3] : List Int)) := fun c => mem_ints c [2, 3]
  have memR' : ∀ c : Int, memR (.int c) [.int 2, .int 3] := fun c => memR_ints c [2, 3]
  have b1 := fm_lo x20 (b := 2) (by decide)
  have b2 := fm_hi x20 (b := 2) (by decide)
  have b3 := fm_lo x30 (b := 3) (by decide)
  have b4 := fm_hi x30 (b := 3) (by decide)
  have b5 := fm_lo x31 (b := 7) (by decide)
  have b6 := fm_hi x31 (b := 7) (by decide)
  have b7 := fm_lo x32 (b := 3) (by decide)
  have b8 := fm_hi x32 (b := 3) (by decide)
  -- which board
  by_cases hq : ((boardI E).length : Int) ∈ ([2, 3] : List Int) ∧ x39.fmod 2 = 1
  · refine ⟨boardI E, boardI_gb okE ?_, does_of (fn := fn21) rfl rfl fun n hn => ?_⟩
    · have := hq.1
      simp at this
      omega
    · conv => whnf
      refine ⟨_, fx n (by omega), ?_⟩
      conv => whnf
      refine ⟨_, fb n (by omega), ?_⟩
      (conv => whnf); refine ⟨by show 2 ≤ sizeLine; decide, ?_⟩
      conv => whnf
      rw [lenB]
      refine ⟨memR' _, ?_⟩
      rw [memB']
      conv => whnf
      refine ⟨_, rfl, ?_⟩
      refine ifT (by rw [decide_eq_true hq.1]; rfl) ?_
      conv => whnf
      refine ⟨_, _, rfl, at_nat (i := 39) at39, ?_⟩
      conv => whnf
      refine ⟨by decide, ?_⟩
      (conv => whnf); refine ⟨shaped_int _, shaped_int _, ?_⟩; rw [ev_int]; (conv => whnf); refine ⟨_, rfl, ?_⟩; refine ifT (decide_eq_true hq.2) ?_
      conv => whnf
  · obtain ⟨r, hr⟩ : ∃ r : Nat, x30.fmod 3 = (r : Int) := ⟨(x30.fmod 3).toNat, by omega⟩
    obtain ⟨m, hm⟩ : ∃ m : Nat, 2 + x20.fmod 2 = ((m + 1 : Nat) : Int) := ⟨(1 + x20.fmod 2).toNat, by omega⟩
    have hr2 : r ≤ 2 := by omega
    have hm2 : m = 1 ∨ m = 2 := by omega
    have rows := fun k => smR_ok (xs := xs) (size := 2 + x31.fmod 7) hr2 (by omega) (by omega) k
    have lenR : ∀ n, (smRs xs r (2 + x31.fmod 7) n).length = n := fun n => by
      unfold smRs
      rw [List.length_map, List.length_range]
    have lastR : (smRs xs r (2 + x31.fmod 7) (m + 1)).getD m [] = smR xs r (2 + x31.fmod 7) m := by
      unfold smRs
      rw [List.getD_eq_getElem?_getD, List.getElem?_map, List.getElem?_range (by omega)]
      rfl
    have one : Trimmed [1 + x32.fmod 3] := fun e he => by
      have : e = 0 := by simpa using he.symm
      rw [this]
      show 1 + x32.fmod 3 ≠ 0
      omega
    have rest : ∀ F, F = (if smR xs r (2 + x31.fmod 7) m = [] then (smRs xs r (2 + x31.fmod 7) (m + 1)).set m [1 + x32.fmod 3] else smRs xs r (2 + x31.fmod 7) (m + 1)) → ∀ n, 3 ≤ n →
        wpB Gc (CC n) (match fn21.body with | .cons _ (.cons _ (.cons _ r)) => r | _ => .nil) [.im (.int cell), .im (.list (xs.map .int)), .im (boardD (boardI E)), .un, .un] ⟨fun _ => Res.val (boardD F) = .val .none, fun e => Res.val (boardD F) = .val e, fun _ => False, fun _ => False, fun c => Res.val (boardD F) = .exc c⟩ := by
      intro F hF n hn
      conv => whnf
      refine ⟨by decide, ?_⟩
      conv => whnf
      refine ⟨_, _, rfl, at_nat (i := 20) at20, ?_⟩
      conv => whnf
      refine ⟨by decide, ?_⟩
      conv => whnf
      refine ⟨⟨by omega, by omega⟩, ?_⟩
      rw [hm, Int.toNat_natCast]
      refine for_rule (fun k ρ => ∃ s4, ρ = [.im (.int cell), .im (.list (xs.map .int)), .im (boardD (boardI E)), .own (.list ((smRs xs r (2 + x31.fmod 7) k).map rowD)), s4]) (fun k x ρ N hx hI hN => ?_) (fun ρ hI => ?_) ⟨_, rfl⟩
      · obtain ⟨hk, rfl⟩ := rgD_at hx
        obtain ⟨s4, rfl⟩ := hI
        rw [Int.zero_add]
        have e1 : (21 : Int) + 3 * (k : Int) = ((21 + 3 * k : Nat) : Int) := by omega
        have e2 : (22 : Int) + 3 * (k : Int) + x30.fmod 3 = ((22 + 3 * k + r : Nat) : Int) := by omega
        have cut : Pe.cutD (xs.map .int) (some ((21 : Int) + 3 * (k : Int))) (some ((22 : Int) + 3 * (k : Int) + x30.fmod 3)) = (((xs.drop (21 + 3 * k)).take (1 + r)).map .int) := by
          rw [e1, e2, cut_mid _ _ _ (by rw [map_len]; omega), ← List.map_drop, ← List.map_take]
          congr 2
          omega
        conv => whnf
        refine ⟨mul_l (by decide) (by decide), ?_⟩
        conv => whnf
        refine ⟨_, rfl, ?_⟩
        conv => whnf
        refine ⟨mul_l (by decide) (by decide), ?_⟩
        conv => whnf
        refine ⟨_, _, rfl, at_nat (i := 30) at30, ?_⟩
        conv => whnf
        refine ⟨by decide, ?_⟩
        conv => whnf
        refine ⟨_, rfl, ?_⟩
        conv => whnf
        refine ⟨_, _, rfl, at_nat (i := 31) at31, ?_⟩
        conv => whnf
        refine ⟨by decide, ?_⟩
        rw [cut]
        conv => whnf
        refine ⟨_, f_small ((xs.drop (21 + 3 * k)).take (1 + r)) (2 + x31.fmod 7) (by omega) (by omega) (by rw [List.length_take]; omega) n (by omega), ?_⟩
        conv => whnf
        refine ⟨by rw [List.length_map, lenR]; omega, ?_⟩
        refine hN _ ?_
        have e : (smRs xs r (2 + x31.fmod 7) (k + 1)).map rowD = (smRs xs r (2 + x31.fmod 7) k).map rowD ++ [rowD (smR xs r (2 + x31.fmod 7) k)] := by
          unfold smRs
          rw [List.range_succ, List.map_append, List.map_append]
          rfl
        rw [e]
        exact ⟨_, rfl⟩
      · obtain ⟨s4, rfl⟩ := hI
        rw [rgD_len]
        have lm : ((smRs xs r (2 + x31.fmod 7) (m + 1)).map rowD).length = m + 1 := by rw [List.length_map, lenR]
        conv => whnf
        refine ⟨_, rfl, ?_⟩
        conv => whnf
        refine ⟨_, _, rfl, at_last lm (by rw [at_rows (by rw [lenR]; omega), lastR]), ?_⟩
        conv => whnf
        refine ⟨by decide, ?_⟩
        conv => whnf
        refine ⟨row_ok _, emp_ok, ?_⟩
        rw [row_emp]
        conv => whnf
        refine ⟨_, rfl, ?_⟩
        by_cases hz : smR xs r (2 + x31.fmod 7) m = []
        · refine ifT (decide_eq_true hz) ?_
          rw [if_pos hz] at hF
          conv => whnf
          refine ⟨_, _, rfl, at_nat (i := 32) at32, ?_⟩
          conv => whnf
          refine ⟨by decide, ?_⟩
          conv => whnf
          refine ⟨by show 1 ≤ sizeLine; decide, ?_⟩
          conv => whnf
          refine ⟨_, rfl, ?_⟩
          conv => whnf
          refine ⟨-1, m, rfl, by rw [lm]; exact ix_last m, ?_⟩
          conv => whnf
          subst hF
          refine congrArg Res.val ?_
          unfold boardD
          rw [List.map_set, rowD_eq [1 + x32.fmod 3]]
          rfl
        · refine ifF (decide_eq_false hz) ?_
          rw [if_neg hz] at hF
          conv => whnf
          subst hF
          rfl
    refine ⟨if smR xs r (2 + x31.fmod 7) m = [] then (smRs xs r (2 + x31.fmod 7) (m + 1)).set m [1 + x32.fmod 3] else smRs xs r (2 + x31.fmod 7) (m + 1), ?_, does_of (fn := fn21) rfl rfl fun n hn => ?_⟩
    rotate_left
    · have hr := rest _ rfl n hn
      conv => whnf
      refine ⟨_, fx n (by omega), ?_⟩
      conv => whnf
      refine ⟨_, fb n (by omega), ?_⟩
      (conv => whnf); refine ⟨by show 2 ≤ sizeLine; decide, ?_⟩
      conv => whnf
      rw [lenB]
      refine ⟨memR' _, ?_⟩
      rw [memB']
      conv => whnf
      refine ⟨_, rfl, ?_⟩
      by_cases h1 : ((boardI E).length : Int) ∈ ([2, 3] : List Int)
      · refine ifT (by rw [decide_eq_true h1]; rfl) ?_
        conv => whnf
        refine ⟨_, _, rfl, at_nat (i := 39) at39, ?_⟩
        conv => whnf
        refine ⟨by decide, ?_⟩
        have h2 : ¬ x39.fmod 2 = 1 := fun z => hq ⟨h1, z⟩
        (conv => whnf); refine ⟨shaped_int _, shaped_int _, ?_⟩; rw [ev_int]; (conv => whnf); refine ⟨_, rfl, ?_⟩; refine ifF (decide_eq_false h2) ?_
        exact hr
      · refine ifF (by rw [decide_eq_false h1]; rfl) ?_
        conv => whnf
        refine ⟨_, rfl, ?_⟩
        refine ifF rfl ?_
        exact hr
    · have base : ∀ l ∈ smRs xs r (2 + x31.fmod 7) (m + 1), Trimmed l ∧ l.length ≤ 3 ∧ nm l ≤ 24 := fun l hl => by
        unfold smRs at hl
        obtain ⟨k, _, rfl⟩ := List.mem_map.mp hl
        exact rows k
      by_cases hz : smR xs r (2 + x31.fmod 7) m = []
      · rw [if_pos hz]
        have all : ∀ l ∈ (smRs xs r (2 + x31.fmod 7) (m + 1)).set m [1 + x32.fmod 3], Trimmed l ∧ l.length ≤ 3 ∧ nm l ≤ 24 := fun l hl => by
          rcases List.mem_or_eq_of_mem_set hl with hl | rfl
          · exact base l hl
          · refine ⟨one, by show 1 ≤ 3; decide, ?_⟩
            show (1 + x32.fmod 3).natAbs + 0 ≤ 24
            omega
        refine ⟨by rw [List.length_set, lenR]; omega, ⟨fun l hl => (all l hl).1, fun l hl => ⟨Nat.le_trans (all l hl).2.2 (by decide), (all l hl).2.1⟩⟩, ?_⟩
        rw [List.length_set, lenR, List.getD_eq_getElem?_getD]
        show ((smRs xs r (2 + x31.fmod 7) (m + 1)).set m [1 + x32.fmod 3])[m]?.getD [] ≠ []
        rw [List.getElem?_set_self (by rw [lenR]; omega)]
        simp
      · rw [if_neg hz]
        refine ⟨by rw [lenR]; omega, ⟨fun l hl => (base l hl).1, fun l hl => ⟨Nat.le_trans (base l hl).2.2 (by decide), (base l hl).2.1⟩⟩, ?_⟩
        rw [lenR]
        show (smRs xs r (2 + x31.fmod 7) (m + 1)).getD m [] ≠ []
        rw [lastR]
        exact hz
end T92
end

section
set_option maxRecDepth 100000
set_option maxHeartbeats 4000000
namespace T92
open PySem L2 Pe
/-! y + c x^a put for y -/
def moreI (c : Int) (a : Nat) : EI := [((0, 1), 1), ((a, 0), c)]
theorem more_ok {c : Int} {a : Nat} (hc : c.natAbs ≤ 3) (ha : a ≤ 1) : OkI 1 1 4 2 (moreI c a) where
  no := by simp [NoI, moreI]
  kb := fun e he => by
    simp only [moreI, List.mem_cons, List.not_mem_nil, or_false] at he
    rcases he with rfl | rfl
    · exact ⟨Nat.zero_le _, Nat.le_refl _⟩
    · exact ⟨ha, Nat.zero_le _⟩
  vn := by
    show (1 : Int).natAbs + (c.natAbs + 0) ≤ 4
    omega
  len := Nat.le_refl 2
def powN (c : Int) (a : Nat) : Nat → EI
  | 0 => [((0, 0), 1)]
  | j + 1 => prodI (powN c a j) (moreI c a)
theorem pow_ok {c : Int} {a : Nat} (hc : c.natAbs ≤ 3) (ha : a ≤ 1) : ∀ j, OkI j j (4 ^ j) (2 ^ j) (powN c a j) ∧ ∀ t y, val (powN c a j) t y = (y + c * t ^ a) ^ j
  | 0 => ⟨⟨by simp [NoI, powN], fun e he => by
      have : e = ((0, 0), 1) := by simpa [powN] using he
      rw [this]
      exact ⟨Nat.le_refl _, Nat.le_refl _⟩, Nat.le_refl 1, Nat.le_refl 1⟩, fun t y => by
      show 1 * (t ^ 0 * y ^ 0) + 0 = (y + c * t ^ a) ^ 0
      rw [Int.pow_zero, Int.pow_zero, Int.pow_zero]
      rfl⟩
  | j + 1 => by
    obtain ⟨h1, h2⟩ := pow_ok hc ha j
    obtain ⟨z1, z2⟩ := prod_ok h1 (more_ok hc ha)
    refine ⟨z1.mono (Nat.le_refl _) (Nat.le_refl _) (by rw [Nat.pow_succ]; exact Nat.le_refl _) (by rw [Nat.pow_succ]; exact Nat.le_refl _), fun t y => ?_⟩
    show val (prodI (powN c a j) (moreI c a)) t y = _
    rw [z2, h2, Int.pow_succ]
    have : val (moreI c a) t y = y + c * t ^ a := by
      show 1 * (t ^ 0 * y ^ 1) + (c * (t ^ a * y ^ 0) + 0) = _
      rw [Int.pow_zero, Int.pow_zero, Int.pow_succ, Int.pow_zero]
      grind
    rw [this]
def spotP (x : Int) (i : Nat) (f : EI) (e : (Nat × Nat) × Int) : EI := addI f (e.1.1 + i, e.1.2) (x * e.2)
def colP (l : List Int) (pw : EI) (f : EI) (i : Nat) : EI := pw.foldl (spotP (l.getD i 0) i) f
def rowF (l : List Int) (pw : EI) (f : EI) : EI := (List.range l.length).foldl (colP l pw) f
theorem spots_ok {I J i b n I' : Nat} {x : Int} {f : EI} (hi : I + i ≤ I') (h : OkI I' J b n f) : ∀ pw : EI, (∀ e ∈ pw, e.1.1 ≤ I ∧ e.1.2 ≤ J) → OkI I' J (b + x.natAbs * VN pw) (n + pw.length) (pw.foldl (spotP x i) f) ∧ ∀ t y, val (pw.foldl (spotP x i) f) t y = val f t y + x * t ^ i * val pw t y := by
  intro pw
  induction pw generalizing f b n with
  | nil => exact fun _ => ⟨h.mono (Nat.le_refl _) (Nat.le_refl _) (Nat.le_add_right _ _) (Nat.le_refl _), fun t y => by simp [val]⟩
  | cons e pw ih =>
    intro hB
    have k2 := hB e List.mem_cons_self
    have h' : OkI I' J (b + (x * e.2).natAbs) (n + 1) (spotP x i f e) := okI_add (p := (e.1.1 + i, e.1.2)) h (by show e.1.1 + i ≤ _; omega) k2.2 _
    obtain ⟨z1, z2⟩ := ih h' fun e he => hB e (List.mem_cons_of_mem _ he)
    refine ⟨z1.mono (Nat.le_refl _) (Nat.le_refl _) ?_ (by rw [List.length_cons]; omega), fun t y => ?_⟩
    · show _ ≤ b + x.natAbs * (e.2.natAbs + VN pw)
      rw [Int.natAbs_mul, Nat.mul_add]
      omega
    · show val (pw.foldl (spotP x i) (spotP x i f e)) t y = val f t y + _ * (e.2 * (t ^ e.1.1 * y ^ e.1.2) + val pw t y)
      rw [z2]
      unfold spotP
      rw [val_add h.no]
      show val f t y + x * e.2 * (t ^ (e.1.1 + i) * y ^ e.1.2) + _ = _
      rw [Int.pow_add]
      grind
theorem cols_ok {I J b n I' Bp np : Nat} {f pw : EI} {l : List Int} (hl : I + l.length ≤ I' + 1) (h : OkI I' J b n f) (hp : OkI I J Bp np pw) : ∀ i, i ≤ l.length → OkI I' J (b + nm (l.take i) * Bp) (n + i * np) ((List.range i).foldl (colP l pw) f) ∧ ∀ t y, val ((List.range i).foldl (colP l pw) f) t y = val f t y + ev (l.take i) t * val pw t y
  | 0, _ => ⟨h.mono (Nat.le_refl _) (Nat.le_refl _) (Nat.le_add_right _ _) (Nat.le_add_right _ _), fun t y => by simp [ev]⟩
  | i + 1, hi => by
    obtain ⟨h1, h2⟩ := cols_ok hl h hp i (by omega)
    obtain ⟨z1, z2⟩ := spots_ok (x := l.getD i 0) (i := i) (by omega : I + i ≤ I') h1 pw hp.kb
    rw [List.range_succ, List.foldl_append]
    show OkI _ _ _ _ (pw.foldl (spotP (l.getD i 0) i) _) ∧ ∀ t y, val (pw.foldl (spotP (l.getD i 0) i) _) t y = _
    refine ⟨z1.mono (Nat.le_refl _) (Nat.le_refl _) ?_ ?_, fun t y => ?_⟩
    · rw [nm_take_succ, Nat.add_mul]
      have : (l.getD i 0).natAbs * VN pw ≤ (l.getD i 0).natAbs * Bp := Nat.mul_le_mul_left _ hp.vn
      omega
    · rw [Nat.add_mul]
      have := hp.len
      omega
    · rw [z2, h2, ev_take_succ]
      grind
def fndN (F : Bd) (c : Int) (a : Nat) : Nat → EI
  | 0 => []
  | j + 1 => rowF (F.getD j []) (powN c a j) (fndN F c a j)
def evs (F : Bd) (t y : Int) : Nat → Int
  | 0 => 0
  | j + 1 => evs F t y j + ev (F.getD j []) t * y ^ j
theorem fnd_ok {F : Bd} {c : Int} {a : Nat} (hF : GB F) (hc : c.natAbs ≤ 3) (ha : a ≤ 1) : ∀ j, j ≤ F.length → OkI 4 2 (j * 2 ^ 16) (12 * j) (fndN F c a j) ∧ ∀ t y, val (fndN F c a j) t y = evs F t (y + c * t ^ a) j
  | 0, _ => ⟨okI_nil.mono (Nat.zero_le _) (Nat.zero_le _) (Nat.zero_le _) (Nat.zero_le _), fun t y => rfl⟩
  | j + 1, hj => by
    obtain ⟨h1, h2⟩ := fnd_ok hF hc ha j (by omega)
    obtain ⟨p1, p2⟩ := pow_ok hc ha j
    have r := rows_at hF.ok j
    have hj2 : j ≤ 2 := by have := hF.len; omega
    have p1' : OkI 2 2 16 4 (powN c a j) := p1.mono hj2 hj2 (by
      have : 4 ^ j ≤ 4 ^ 2 := Nat.pow_le_pow_right (by decide) hj2
      omega) (by
      have : 2 ^ j ≤ 2 ^ 2 := Nat.pow_le_pow_right (by decide) hj2
      omega)
    obtain ⟨z1, z2⟩ := cols_ok (l := F.getD j []) (I' := 4) (by omega) h1 p1' (F.getD j []).length (Nat.le_refl _)
    rw [List.take_length] at z1 z2
    show OkI _ _ _ _ (rowF _ _ _) ∧ ∀ t y, val (rowF _ _ _) t y = _
    refine ⟨z1.mono (Nat.le_refl _) (Nat.le_refl _) ?_ ?_, fun t y => ?_⟩
    · have : nm (F.getD j []) * 16 ≤ 2 ^ 12 * 16 := Nat.mul_le_mul_right _ r.1
      omega
    · have : (F.getD j []).length * 4 ≤ 3 * 4 := Nat.mul_le_mul_right _ r.2
      omega
    · unfold rowF
      rw [z2, h2, p2]
      rfl
def putB (F : Bd) (c : Int) (a : Nat) : Bd := boardI (fndN F c a F.length)
theorem f_put {F : Bd} {c : Int} {a : Nat} (hF : GB F) (hc : c.natAbs ≤ 3) (ha : a ≤ 1) : Does 3 22 [boardD F, .int c, .int a] (boardD (putB F c a)) := by
  refine does_of (fn := fn22) rfl rfl fun n hn => ?_
  have big : 2 ^ 22 < sizeLine := by decide
  have mo := more_ok hc ha
  (conv => whnf); refine ⟨by show 2 ≤ sizeLine; decide, ?_⟩
  (conv => whnf); refine ⟨by show 2 ≤ sizeLine; decide, ?_⟩
  conv => whnf
  refine ⟨⟨rfl, by show 4 ≤ 30; decide⟩, ?_⟩
  conv => whnf
  refine ⟨⟨rfl, by decide⟩, ?_⟩
  (conv => whnf); refine ⟨by show 2 ≤ sizeLine; decide, ?_⟩
  conv => whnf
  refine ⟨⟨rfl, by show 2 ≤ 30; decide⟩, ?_⟩
  conv => whnf
  have st3 : PyData.dict (putsD [] [kN (0, 1), .int 1, kN (a, 0), .int c]) = dicI (moreI c a) := by
    rw [disp2 (by simp)]
    rfl
  have st5 : PyData.dict (putsD [] [kN (0, 0), .int 1]) = dicI (powN c a 0) := by
    unfold putsD putsD
    rw [put_new [] (0, 0) _ rfl]
    rfl
  refine for_rule (fun j ρ => ∃ s3 s5 s6 s7 s8 s9, ρ = [.im (boardD F), .im (.int c), .im (.int a), s3, .own (dicI (fndN F c a j)), s5, s6, s7, s8, s9] ∧ (s3 = .own (dicI (moreI c a)) ∨ s3 = .im (dicI (moreI c a))) ∧ (s5 = .own (dicI (powN c a j)) ∨ s5 = .im (dicI (powN c a j)))) (fun j x ρ N hx hI hN => ?_) (fun ρ hI => ?_)
    ⟨_, _, _, _, _, _, rfl, .inl (congrArg Pe.Slot.own st3), .inl (congrArg Pe.Slot.own st5)⟩
  · obtain ⟨s3, s5, s6, s7, s8, s9, rfl, q3, q5⟩ := hI
    rw [List.getElem?_map] at hx
    obtain ⟨l, hl, rfl⟩ := Option.map_eq_some_iff.mp hx
    have hj := (List.getElem?_eq_some_iff.mp hl).1
    have el : F.getD j [] = l := by rw [List.getD_eq_getElem?_getD, hl]; rfl
    have hj2 : j ≤ 2 := by have := hF.len; omega
    have r := rows_at hF.ok j
    rw [el] at r
    obtain ⟨f1, -⟩ := fnd_ok hF hc ha j (by omega)
    obtain ⟨p1, -⟩ := pow_ok hc ha j
    have c4 : 4 ^ j ≤ 4 ^ 2 := Nat.pow_le_pow_right (by decide) hj2
    have c2 : 2 ^ j ≤ 2 ^ 2 := Nat.pow_le_pow_right (by decide) hj2
    have p1' : OkI 2 2 16 4 (powN c a j) := p1.mono hj2 hj2 (by omega) (by omega)
    have lenl : (l.map PyData.int).length = l.length := map_len l
    rw [rowD_eq l]
    conv => whnf
    rw [lenl]
    refine ⟨⟨by omega, by omega⟩, ?_⟩
    rw [Int.toNat_natCast]
    refine for_rule (fun i ρ => ∃ s5 s7 s8 s9, ρ = [.im (boardD F), .im (.int c), .im (.int a), s3, .own (dicI ((List.range i).foldl (colP l (powN c a j)) (fndN F c a j))), s5, .im (.tuple (l.map .int)), s7, s8, s9] ∧ (s5 = .own (dicI (powN c a j)) ∨ s5 = .im (dicI (powN c a j)))) (fun i x ρ N' hx hI hN' => ?_) (fun ρ hI => ?_) ⟨_, _, _, _, rfl, q5⟩
    · obtain ⟨hi, rfl⟩ := rgD_at hx
      obtain ⟨s5, s7, s8, s9, rfl, q5⟩ := hI
      rw [Int.zero_add]
      obtain ⟨g1, -⟩ := cols_ok (l := l) (I' := 4) (by omega) f1 p1' i (by omega)
      have next : (List.range (i + 1)).foldl (colP l (powN c a j)) (fndN F c a j) = colP l (powN c a j) ((List.range i).foldl (colP l (powN c a j)) (fndN F c a j)) i := by
        rw [List.range_succ, List.foldl_append]
        rfl
      generalize (List.range i).foldl (colP l (powN c a j)) (fndN F c a j) = f at g1 next ⊢
      have walk : ∀ K : PEnds, (∀ ρ, (∃ s5 s7 s8 s9, ρ = [.im (boardD F), .im (.int c), .im (.int a), s3, .own (dicI (colP l (powN c a j) f i)), s5, .im (.tuple (l.map .int)), s7, s8, s9] ∧ (s5 = .own (dicI (powN c a j)) ∨ s5 = .im (dicI (powN c a j)))) → K.nx ρ) → forN (fun x ρ Q => Pe.tgR (.nm 8) x ρ Q) (fun ρ K' => wpB Gc (CC n) (.cons (.asg 9 (.tup (.cons (.bin .add (.ix (.v 8) (.k (.int 0))) (.v 7)) (.cons (.ix (.v 8) (.k (.int 1))) .nil)))) (.cons (.put 4 (.v 9) (.bin .add (.mt .get2 (.v 4) (.cons (.v 9) (.cons (.k (.int 0)) .nil))) (.bin .mul (.ix (.v 6) (.v 7)) (.ix (.v 5) (.v 8))))) .nil)) ρ K') K (((powN c a j).map fun e => (kN e.1, PyData.int e.2)).map (·.1))
          [.im (boardD F), .im (.int c), .im (.int a), s3, .own (dicI f), .im (dicI (powN c a j)), .im (.tuple (l.map .int)), .im (.int i), s8, s9] := by
        intro K hK
        refine for_rule (fun k ρ => ∃ s8 s9, ρ = [.im (boardD F), .im (.int c), .im (.int a), s3, .own (dicI (((powN c a j).take k).foldl (spotP (l.getD i 0) i) f)), .im (dicI (powN c a j)), .im (.tuple (l.map .int)), .im (.int i), s8, s9]) (fun k x ρ N2 hx hI hN2 => ?_) (fun ρ hI => ?_) ⟨_, _, rfl⟩
        · obtain ⟨s8, s9, rfl⟩ := hI
          obtain ⟨e, he, rfl⟩ := keys_at hx
          have hk := (List.getElem?_eq_some_iff.mp he).1
          have me := List.mem_of_getElem? he
          have hte : (powN c a j).take (k + 1) = (powN c a j).take k ++ [e] := by rw [List.take_succ, he]; rfl
          obtain ⟨g2, -⟩ := spots_ok (x := l.getD i 0) (i := i) (by omega : 2 + i ≤ 4) g1 ((powN c a j).take k) fun e he => p1'.kb e (List.mem_of_mem_take he)
          have next2 : ((powN c a j).take (k + 1)).foldl (spotP (l.getD i 0) i) f = spotP (l.getD i 0) i (((powN c a j).take k).foldl (spotP (l.getD i 0) i) f) e := by
            rw [hte, List.foldl_append]
            rfl
          generalize ((powN c a j).take k).foldl (spotP (l.getD i 0) i) f = f' at g2 next2 ⊢
          have kk : PyData.tuple [.int ((e.1.1 : Int) + (i : Int)), .int (e.1.2 : Int)] = kN (e.1.1 + i, e.1.2) := by
            unfold kN
            rw [Int.natCast_add]
          conv => whnf
          refine ⟨_, _, rfl, at_nat (i := 0) rfl, ?_⟩
          conv => whnf
          refine ⟨_, _, rfl, at_nat (i := 1) rfl, ?_⟩
          (conv => whnf); refine ⟨by show 2 ≤ sizeLine; decide, ?_⟩
          rw [kk]
          conv => whnf
          refine ⟨trivial, ?_⟩
          conv => whnf
          refine ⟨kN_key _, ?_⟩
          rw [getD_I]
          conv => whnf
          refine ⟨_, _, rfl, at_nat (getD_int l i hi), ?_⟩
          conv => whnf
          refine ⟨kN_key e.1, _, getD_some (powN c a j) e.1 (List.mem_map_of_mem me), ?_⟩
          rw [lookI_mem p1'.no me]
          conv => whnf
          have v1 := nm_get l i
          have v2 := mem_le me
          have v3 := p1'.vn
          refine ⟨mul_ok (k := 12) (k' := 4) (by omega) (by omega) (by decide), ?_⟩
          conv => whnf
          refine ⟨kN_key _, ?_, ?_⟩
          · have l1 := g2.len
            have l2 : ((powN c a j).take k).length ≤ 4 := by
              rw [List.length_take]
              have := p1'.len
              omega
            have l3 : i * 4 ≤ 3 * 4 := Nat.mul_le_mul_right _ (by omega)
            rw [List.length_map]
            omega
          · refine hN2 _ ?_
            rw [putD_I, next2]
            exact ⟨_, _, rfl⟩
        · obtain ⟨s8, s9, rfl⟩ := hI
          rw [List.length_map, List.length_map, List.take_length]
          exact hK _ ⟨_, _, _, _, rfl, .inr rfl⟩
      rcases q5 with rfl | rfl <;>
      · conv => whnf
        exact walk _ fun ρ h => hN' ρ (by rw [next]; exact h)
    · obtain ⟨s5, s7, s8, s9, rfl, q5⟩ := hI
      rw [rgD_len]
      have nx : (List.range l.length).foldl (colP l (powN c a j)) (fndN F c a j) = fndN F c a (j + 1) := by
        show _ = rowF (F.getD j []) _ _
        rw [el]
        rfl
      rw [nx]
      have fp := f_product p1' mo (k := 4) (k' := 2) (by decide) (by decide) (by decide) (by decide)
      rcases q5 with rfl | rfl <;> rcases q3 with rfl | rfl <;>
      · conv => whnf
        refine ⟨_, fp n (by omega), ?_⟩
        refine hN _ ⟨_, _, _, _, _, _, rfl, .inr rfl, .inr rfl⟩
  · obtain ⟨s3, s5, s6, s7, s8, s9, rfl, q3, q5⟩ := hI
    rw [List.length_map]
    obtain ⟨f1, -⟩ := fnd_ok hF hc ha F.length (Nat.le_refl _)
    conv => whnf
    refine ⟨_, f_board_of f1 n (by omega), ?_⟩
    conv => whnf
    rfl
end T92
end

section
set_option maxRecDepth 100000
set_option maxHeartbeats 4000000
namespace T92
open PySem L2 Pe
def oftN (l : List Int) : Nat → List Int
  | 0 => [1]
  | m + 1 => prodR (oftN l m) l
theorem oft_ok {l : List Int} {L k : Nat} (hl : l.length ≤ L) (hk : nm l ≤ 2 ^ k) : ∀ m, Trimmed (oftN l m) ∧ (oftN l m).length ≤ 1 + m * L ∧ nm (oftN l m) ≤ 2 ^ (m * k) ∧ ∀ t, ev (oftN l m) t = ev l t ^ m
  | 0 => ⟨fun e he => by
      have : e = 0 := by simpa [oftN] using he.symm
      rw [this]
      show (1 : Int) ≠ 0
      decide, by simp [oftN], by simp [oftN, nm], fun t => by simp [oftN, ev]⟩
  | m + 1 => by
    obtain ⟨h1, h2, h3, h4⟩ := oft_ok hl hk m
    have p1 := len_prodR (oftN l m) l
    have p2 := nm_prodR (oftN l m) l
    refine ⟨trim_trimmed _, ?_, ?_, fun t => ?_⟩
    · show (prodR (oftN l m) l).length ≤ _
      rw [Nat.add_mul]
      omega
    · show nm (prodR (oftN l m) l) ≤ _
      rw [Nat.add_mul, Nat.one_mul, Nat.pow_add]
      exact Nat.le_trans p2 (Nat.mul_le_mul h3 hk)
    · show ev (prodR (oftN l m) l) t = _
      rw [ev_prodR, h4, Int.pow_succ]
theorem f_often {l : List Int} {L k : Nat} (hl : l.length ≤ L) (hk : nm l ≤ 2 ^ k) (m : Nat) (hm : m ≤ 2) (hL : L ≤ 2 ^ 10) (hk2 : k ≤ 2 ^ 10) : Does 3 23 [rowD l, .int m] (rowD (oftN l m)) := by
  refine does_of (fn := fn23) rfl rfl fun n hn => ?_
  have one : PyData.tuple [.int 1] = rowD [1] := by
    rw [rowD_eq]
    rfl
  conv => whnf
  refine ⟨by show 1 ≤ sizeLine; decide, ?_⟩
  conv => whnf
  refine ⟨⟨by omega, by omega⟩, ?_⟩
  rw [Int.toNat_natCast, one]
  refine for_rule (fun i ρ => ∃ s3, ρ = [.im (rowD l), .im (.int m), .im (rowD (oftN l i)), s3]) (fun i x ρ N hx hI hN => ?_) (fun ρ hI => ?_) ⟨_, rfl⟩
  · obtain ⟨hi, rfl⟩ := rgD_at hx
    obtain ⟨s3, rfl⟩ := hI
    obtain ⟨h1, h2, h3, h4⟩ := oft_ok hl hk i
    have e1 : i * L ≤ 2 * 2 ^ 10 := Nat.mul_le_mul (by omega) hL
    have e2 : i * k ≤ 2 * 2 ^ 10 := Nat.mul_le_mul (by omega) hk2
    conv => whnf
    refine ⟨_, f_row_times (oftN l i) l (k := i * k) (k' := k) (by omega) (by omega) h3 hk (by omega) n (by omega), ?_⟩
    exact hN _ ⟨_, rfl⟩
  · obtain ⟨s3, rfl⟩ := hI
    rw [rgD_len]
    conv => whnf
def timB (F : Bd) (c : Int) : Bd := F.map fun l => l.map (· * c)
theorem f_times {F : Bd} {c : Int} (hc : -(2 ^ 64) < c ∧ c < 2 ^ 64) {L k : Nat} (hF : BdOk L k F) (hL : L ≤ 2 ^ 20) (h : F.length ≤ 2 ^ 20) : Does 1 24 [boardD F, .int c] (boardD (timB F c)) := by
  refine does_of (fn := fn24) rfl rfl fun n hn => ?_
  have big : 2 ^ 22 < sizeLine := by decide
  conv => whnf
  refine comp_rule (fun i acc ρ => acc = ((F.take i).map fun l => l.map (· * c)).map rowD ∧ ∃ s2 s3, ρ = [.im (boardD F), .im (.int c), s2, s3]) (fun i x acc ρ N hx hI hN => ?_) (fun acc ρ hI => ?_) ⟨rfl, _, _, rfl⟩
  · obtain ⟨rfl, s2, s3, rfl⟩ := hI
    rw [List.getElem?_map] at hx
    obtain ⟨l, hl, rfl⟩ := Option.map_eq_some_iff.mp hx
    have ht : F.take (i + 1) = F.take i ++ [l] := by rw [List.take_succ, hl]; rfl
    have hi := (List.getElem?_eq_some_iff.mp hl).1
    have lo := (hF.ok l (List.mem_of_getElem? hl)).2
    rw [rowD_eq l]
    conv => whnf
    refine ⟨_, rfl, ?_⟩
    refine ifT rfl ?_
    conv => whnf
    refine comp_rule (fun j acc ρ => acc = ((l.take j).map (· * c)).map .int ∧ ∃ s3, ρ = [.im (boardD F), .im (.int c), .im (.tuple (l.map .int)), s3]) (fun j x acc ρ N' hx hI hN' => ?_) (fun acc ρ hI => ?_) ⟨rfl, _, rfl⟩
    · obtain ⟨rfl, s3, rfl⟩ := hI
      rw [List.getElem?_map] at hx
      obtain ⟨v, hv, rfl⟩ := Option.map_eq_some_iff.mp hx
      have ht2 : l.take (j + 1) = l.take j ++ [v] := by rw [List.take_succ, hv]; rfl
      have hj := (List.getElem?_eq_some_iff.mp hv).1
      conv => whnf
      refine ⟨_, rfl, ?_⟩
      refine ifT rfl ?_
      conv => whnf
      refine ⟨mul_r hc.1 hc.2, ?_⟩
      conv => whnf
      refine ⟨by rw [List.length_map, List.length_map, List.length_take]; omega, hN' _ _ ⟨?_, _, rfl⟩⟩
      rw [ht2, List.map_append, List.map_append]
      rfl
    · obtain ⟨rfl, s3, rfl⟩ := hI
      rw [map_len, List.take_length]
      conv => whnf
      refine ⟨by rw [List.length_map, List.length_map, List.length_take]; omega, hN _ _ ⟨?_, _, _, rfl⟩⟩
      rw [ht, List.map_append, List.map_append]
      have e : PyData.tuple ((l.map (· * c)).map .int) = rowD (l.map (· * c)) := (rowD_eq _).symm
      rw [e]
      rfl
  · obtain ⟨rfl, s2, s3, rfl⟩ := hI
    rw [List.length_map, List.take_length]
    conv => whnf
    rfl
end T92
end

section
set_option maxRecDepth 100000
set_option maxHeartbeats 40000000
namespace T92
open PySem L2 Pe
/-! ties of values -/
def lineFI (l : List Int) (φ : List Int → Int) (S : List Int) : Int := sumN (fun c => if (c : Int) ∈ S then 0 else l.getD c 0 * sg S c * φ (sortI (S ++ [(c : Int)]))) l.length
def dzI (φ : List Int → Int) : List (List Int) → List Int → Int
  | [] => φ
  | l :: ls => lineFI l (dzI φ ls)
def lineTI (f : List Int) (turn size : Nat) : List Int := (List.replicate turn 0 ++ f.reverse ++ List.replicate size 0).take size
def tabTI (f g : List Int) (k : Nat) : List (List Int) := (List.range (g.length - 1 - k)).map (fun t => lineTI f t (f.length + g.length - 2 - 2 * k)) ++ (List.range (f.length - 1 - k)).map (fun t => lineTI g t (f.length + g.length - 2 - 2 * k))
def tieI (f g : List Int) (k : Nat) : Int := dzI (delta (rng (tabTI f g k).length)) (tabTI f g k) []
def evF (F : Bd) (t : Int) : List Int := F.map fun l => ev l t
theorem lineF_I (ls : Bd) (φ : List Int → Int) (t : Int) (S : List Int) : lineF ls φ t S = lineFI (evF ls t) φ S := by
  unfold lineF lineFI
  have e : (evF ls t).length = ls.length := List.length_map ..
  rw [e]
  have : ∀ n, sumN (colF S ls φ t) n = sumN (fun c => if (c : Int) ∈ S then 0 else (evF ls t).getD c 0 * sg S c * φ (sortI (S ++ [(c : Int)]))) n := by
    intro n
    induction n with
    | zero => rfl
    | succ n ih =>
      show sumN _ n + colF S ls φ t n = sumN _ n + _
      rw [ih]
      congr 1
      unfold colF evF
      have : ev (ls.getD n []) t = (ls.map fun l => ev l t).getD n 0 := by
        rw [List.getD_eq_getElem?_getD, List.getD_eq_getElem?_getD, List.getElem?_map]
        cases ls[n]? <;> rfl
      rw [this]
  exact this _
theorem dz_I (t : Int) (φ : List Int → Int) : ∀ (Ls : List Bd) (S : List Int), dz t φ Ls S = dzI φ (Ls.map fun ls => evF ls t) S
  | [], S => rfl
  | l :: ls, S => by
    show lineF l (dz t φ ls) t S = lineFI (evF l t) (dzI φ (ls.map fun ls => evF ls t)) S
    rw [lineF_I]
    have : dz t φ ls = dzI φ (ls.map fun ls => evF ls t) := funext (dz_I t φ ls)
    rw [this]
theorem line_I (F : Bd) (turn size : Nat) (t : Int) : evF (lineT F turn size) t = lineTI (evF F t) turn size := by
  unfold evF lineT lineTI
  rw [List.map_take, List.map_append, List.map_append, List.map_replicate, List.map_reverse, List.map_replicate]
  rfl
theorem tab_I (F G : Bd) (k : Nat) (t : Int) : (tabT F G k).map (fun ls => evF ls t) = tabTI (evF F t) (evF G t) k := by
  have e1 : (evF F t).length = F.length := List.length_map ..
  have e2 : (evF G t).length = G.length := List.length_map ..
  unfold tabT tabTI szT
  rw [List.map_append, List.map_map, List.map_map, e1, e2]
  congr 1 <;>
  · apply List.map_congr_left
    intro i _
    exact line_I _ _ _ _
theorem ev_tie {L k : Nat} {F G : Bd} {j : Nat} (hF : BdOk L k F) (hG : BdOk L k G) (h : F.length + G.length ≤ 8 + 2 * j) (h1 : j + 1 ≤ F.length) (h2 : j + 1 ≤ G.length) (t : Int) : ev (tieE F G j) t = tieI (evF F t) (evF G t) j := by
  obtain ⟨_, _, _, h4⟩ := detE_row (tab_ok hF hG h h1 h2)
  have e : (tabT F G j).length = (tabTI (evF F t) (evF G t) j).length := by
    rw [← tab_I, List.length_map]
  unfold tieE tieI
  rw [h4, dz_I, tab_I, e]
theorem i11 (a0 a1 b0 b1 : Int) : tieI [a0, a1] [b0, b1] 0 = a1 * b0 - b1 * a0 := by
  simp (config := { maxSteps := 20000000 }) [tieI, dzI, tabTI, lineTI, lineFI, sumN, sg, delta, rng, List.range, List.range.loop, List.replicate, sortI, insI]
  grind
theorem i21 (a0 a1 a2 b0 b1 : Int) : tieI [a0, a1, a2] [b0, b1] 0 = a2*b0^2 - a1*b0*b1 + a0*b1^2 := by
  simp (config := { maxSteps := 20000000 }) [tieI, dzI, tabTI, lineTI, lineFI, sumN, sg, delta, rng, List.range, List.range.loop, List.replicate, sortI, insI]
  grind
theorem i22 (a0 a1 a2 b0 b1 b2 : Int) : tieI [a0, a1, a2] [b0, b1, b2] 0 = (a2*b0-a0*b2)*(a2*b0-a0*b2) - (a2*b1-a1*b2)*(a1*b0-a0*b1) := by
  simp (config := { maxSteps := 20000000 }) [tieI, dzI, tabTI, lineTI, lineFI, sumN, sg, delta, rng, List.range, List.range.loop, List.replicate, sortI, insI]
  grind
end T92
end

section
set_option maxRecDepth 100000
set_option maxHeartbeats 80000000
namespace T92
open PySem L2 Pe
/-! the identities -/
theorem two_three {f : List Int} (h : f.length = 2 ∨ f.length = 3) : (∃ a b, f = [a, b]) ∨ ∃ a b c, f = [a, b, c] := by
  match f, h with
  | [a, b], _ => exact .inl ⟨a, b, rfl⟩
  | [a, b, c], _ => exact .inr ⟨a, b, c, rfl⟩
/-- rows of a product -/
def cvI (f g : List Int) : List Int := match f, g with
  | [a0, a1], [b0, b1] => [a0 * b0, a0 * b1 + a1 * b0, a1 * b1]
  | [a0, a1], [b0, b1, b2] => [a0 * b0, a0 * b1 + a1 * b0, a0 * b2 + a1 * b1, a1 * b2]
  | [a0, a1, a2], [b0, b1] => [a0 * b0, a0 * b1 + a1 * b0, a1 * b1 + a2 * b0, a2 * b1]
  | [a0, a1, a2], [b0, b1, b2] => [a0 * b0, a0 * b1 + a1 * b0, a0 * b2 + a1 * b1 + a2 * b0, a1 * b2 + a2 * b1, a2 * b2]
  | _, _ => []
/-- rows with y + s put for y -/
def shI (f : List Int) (s : Int) : List Int := match f with
  | [a0, a1] => [a0 + a1 * s, a1]
  | [a0, a1, a2] => [a0 + a1 * s + a2 * s ^ 2, a1 + 2 * a2 * s, a2]
  | l => l
theorem id_prod {f g h : List Int} (hf : f.length = 2 ∨ f.length = 3) (hg : g.length = 2 ∨ g.length = 3) (hh : h.length = 2 ∨ h.length = 3) : tieI f (cvI g h) 0 = tieI f g 0 * tieI f h 0 := by
  rcases two_three hf with ⟨a0, a1, rfl⟩ | ⟨a0, a1, a2, rfl⟩ <;> rcases two_three hg with ⟨b0, b1, rfl⟩ | ⟨b0, b1, b2, rfl⟩ <;> rcases two_three hh with ⟨c0, c1, rfl⟩ | ⟨c0, c1, c2, rfl⟩ <;>
  · simp only [cvI]
    simp (config := { maxSteps := 20000000 }) [tieI, dzI, tabTI, lineTI, lineFI, sumN, sg, delta, rng, List.range, List.range.loop, List.replicate, sortI, insI]
    grind
theorem id_whole0 {f g : List Int} (hf : f.length = 2 ∨ f.length = 3) (hg : g.length = 2 ∨ g.length = 3) : tieI f (cvI f g) 0 = 0 := by
  rcases two_three hf with ⟨a0, a1, rfl⟩ | ⟨a0, a1, a2, rfl⟩ <;> rcases two_three hg with ⟨b0, b1, rfl⟩ | ⟨b0, b1, b2, rfl⟩ <;>
  · simp only [cvI]
    simp (config := { maxSteps := 20000000 }) [tieI, dzI, tabTI, lineTI, lineFI, sumN, sg, delta, rng, List.range, List.range.loop, List.replicate, sortI, insI]
    grind
theorem id_whole1 {f g : List Int} (hf : f.length = 3) (hg : g.length = 2 ∨ g.length = 3) : tieI f (cvI f g) 1 = 0 := by
  rcases two_three (.inr hf) with ⟨a0, a1, rfl⟩ | ⟨a0, a1, a2, rfl⟩
  · cases hf
  rcases two_three hg with ⟨b0, b1, rfl⟩ | ⟨b0, b1, b2, rfl⟩ <;>
  · simp only [cvI]
    simp (config := { maxSteps := 20000000 }) [tieI, dzI, tabTI, lineTI, lineFI, sumN, sg, delta, rng, List.range, List.range.loop, List.replicate, sortI, insI]
    grind
theorem id_top {f g : List Int} (hf : f.length = 2 ∨ f.length = 3) (hg : g.length = 2 ∨ g.length = 3) : tieI f (cvI f g) (f.length - 1) = f.getD (f.length - 1) 0 ^ (g.length - 1) := by
  rcases two_three hf with ⟨a0, a1, rfl⟩ | ⟨a0, a1, a2, rfl⟩ <;> rcases two_three hg with ⟨b0, b1, rfl⟩ | ⟨b0, b1, b2, rfl⟩ <;>
  · simp only [cvI]
    simp (config := { maxSteps := 20000000 }) [tieI, dzI, tabTI, lineTI, lineFI, sumN, sg, delta, rng, List.range, List.range.loop, List.replicate, sortI, insI]
    try grind
theorem id_shift {f g : List Int} (hf : f.length = 2 ∨ f.length = 3) (hg : g.length = 2 ∨ g.length = 3) (s : Int) (k : Nat) (hk : k < min f.length g.length) : tieI (shI f s) (shI g s) k = tieI f g k := by
  have k3 : k = 0 ∨ k = 1 ∨ k = 2 := by omega
  rcases two_three hf with ⟨a0, a1, rfl⟩ | ⟨a0, a1, a2, rfl⟩ <;> rcases two_three hg with ⟨b0, b1, rfl⟩ | ⟨b0, b1, b2, rfl⟩ <;> rcases k3 with rfl | rfl | rfl <;> first
    | (exfalso; revert hk; simp; done)
    | (simp only [shI]
       simp (config := { maxSteps := 20000000 }) [tieI, dzI, tabTI, lineTI, lineFI, sumN, sg, delta, rng, List.range, List.range.loop, List.replicate, sortI, insI]
       try grind)
theorem id_scale {f g : List Int} (hf : f.length = 2 ∨ f.length = 3) (hg : g.length = 2 ∨ g.length = 3) (c : Int) (k : Nat) (hk : k < min f.length g.length) : tieI (f.map (· * c)) g k = tieI f g k * c ^ (g.length - 1 - k) := by
  have k3 : k = 0 ∨ k = 1 ∨ k = 2 := by omega
  rcases two_three hf with ⟨a0, a1, rfl⟩ | ⟨a0, a1, a2, rfl⟩ <;> rcases two_three hg with ⟨b0, b1, rfl⟩ | ⟨b0, b1, b2, rfl⟩ <;> rcases k3 with rfl | rfl | rfl <;> first
    | (exfalso; revert hk; simp; done)
    | (simp (config := { maxSteps := 20000000 }) [tieI, dzI, tabTI, lineTI, lineFI, sumN, sg, delta, rng, List.range, List.range.loop, List.replicate, sortI, insI]
       try grind)
theorem id_turn {f g : List Int} (hf : f.length = 2 ∨ f.length = 3) (hg : g.length = 2 ∨ g.length = 3) (k : Nat) (hk : k < min f.length g.length) : tieI g f k = tieI f g k * (if ((f.length - 1 - k) * (g.length - 1 - k)) % 2 = 1 then -1 else 1) := by
  have k3 : k = 0 ∨ k = 1 ∨ k = 2 := by omega
  rcases two_three hf with ⟨a0, a1, rfl⟩ | ⟨a0, a1, a2, rfl⟩ <;> rcases two_three hg with ⟨b0, b1, rfl⟩ | ⟨b0, b1, b2, rfl⟩ <;> rcases k3 with rfl | rfl | rfl <;> first
    | (exfalso; revert hk; simp; done)
    | (simp (config := { maxSteps := 20000000 }) [tieI, dzI, tabTI, lineTI, lineFI, sumN, sg, delta, rng, List.range, List.range.loop, List.replicate, sortI, insI]
       try grind)
end T92
end

section
set_option maxRecDepth 100000
set_option maxHeartbeats 4000000
namespace T92
open PySem L2 Pe
/-! values of boards -/
/-- a list of values read as a row in y: alike everywhere, alike at each place -/
theorem get_inj {a b : List Int} (h : ∀ y : Int, ev a y = ev b y) (i : Nat) : a.getD i 0 = b.getD i 0 := by
  have e := trim_of (zs := a) (ys := b) h
  have g : ∀ (c : List Int), (trim c).getD i 0 = c.getD i 0 := fun c => by
    unfold trim
    rw [List.getD_eq_getElem?_getD, List.getElem?_take]
    split
    · rw [← List.getD_eq_getElem?_getD]
    · rename_i h'
      rcases Nat.lt_or_ge i c.length with hl | hl
      · exact (te_zero c c.length i (by omega) hl).symm
      · rw [List.getD_eq_getElem?_getD, List.getElem?_eq_none hl]
        try rfl
  rw [← g a, ← g b, e]
/-- a row whose value is 0 everywhere is () -/
theorem row_nil {l : List Int} (ht : Trimmed l) (h : ∀ t : Int, ev l t = 0) : l = [] := ev_inj l [] ht (fun e he => by cases he) fun t _ => h t
theorem row_ne {l : List Int} (ht : Trimmed l) (h : l ≠ []) : ∃ T : Int, ∀ t, T ≤ t → ev l t ≠ 0 := ev_big l ht h
/-- a cut board whose last row is known -/
theorem cut_eq {X : Bd} {m : Nat} (hm : m < X.length) (h1 : X.getD m [] ≠ []) (h2 : ∀ i, m < i → X.getD i [] = []) : cutB X = X.take (m + 1) := by
  have go : ∀ e, m < e → ce X e = m + 1 := by
    intro e
    induction e with
    | zero => intro h; omega
    | succ e ih =>
      intro h
      unfold ce
      by_cases he : e = m
      · subst he
        rw [if_neg h1]
      · rw [if_pos (h2 e (by omega))]
        exact ih (by omega)
  unfold cutB
  rw [go X.length hm]
theorem evF_get (F : Bd) (t : Int) (i : Nat) : (evF F t).getD i 0 = ev (F.getD i []) t := by
  unfold evF
  rw [List.getD_eq_getElem?_getD, List.getD_eq_getElem?_getD, List.getElem?_map]
  cases F[i]? <;> rfl
theorem evF_len (F : Bd) (t : Int) : (evF F t).length = F.length := List.length_map ..
/-! products -/
theorem emp_ev (t : Int) : ev [] t = 0 := rfl
theorem top_prod {a b X : List Int} (ha : Trimmed a) (hb : Trimmed b) (h1 : a ≠ []) (h2 : b ≠ []) (e : ∀ t, ev X t = ev a t * ev b t) : X ≠ [] := fun z => by
  obtain ⟨T1, q1⟩ := row_ne ha h1
  obtain ⟨T2, q2⟩ := row_ne hb h2
  have := e (if T1 ≤ T2 then T2 else T1)
  rw [z] at this
  have a1 := q1 (if T1 ≤ T2 then T2 else T1) (by split <;> omega)
  have a2 := q2 (if T1 ≤ T2 then T2 else T1) (by split <;> omega)
  exact Int.mul_ne_zero a1 a2 this.symm
theorem two_threeB {F : Bd} (h : F.length = 2 ∨ F.length = 3) : (∃ a b, F = [a, b]) ∨ ∃ a b c, F = [a, b, c] := by
  match F, h with
  | [a, b], _ => exact .inl ⟨a, b, rfl⟩
  | [a, b, c], _ => exact .inr ⟨a, b, c, rfl⟩
end T92
end

section
set_option maxRecDepth 100000
set_option maxHeartbeats 4000000
namespace T92
open PySem L2 Pe
theorem bt_val {F G : Bd} (hF : GB F) (hG : GB G) : (cutB (btB F G)).length = F.length + G.length - 1 ∧ ∀ t, evF (cutB (btB F G)) t = cvI (evF F t) (evF G t) := by
  have tF := hF.top
  have tG := hG.top
  have trF := hF.ok.tr
  have trG := hG.ok.tr
  rcases two_threeB hF.len with ⟨a0, a1, rfl⟩ | ⟨a0, a1, a2, rfl⟩ <;> rcases two_threeB hG.len with ⟨b0, b1, rfl⟩ | ⟨b0, b1, b2, rfl⟩
  · have e : btB [a0, a1] [b0, b1] = [sumR [] (prodR a0 b0), sumR (sumR [] (prodR a0 b1)) (prodR a1 b0), sumR [] (prodR a1 b1), []] := rfl
    rw [e, cut_eq (m := 2) (by show 2 < 4; decide) (top_prod (trF a1 (by simp)) (trG b1 (by simp)) tF tG fun t => by rw [show List.getD _ 2 [] = sumR [] (prodR a1 b1) from rfl, ev_sumR, ev_prodR, emp_ev, Int.zero_add]) (fun i hi => by
      match i, hi with
      | 3, _ => rfl
      | n + 4, _ => rfl)]
    refine ⟨by simp only [List.take_succ_cons, List.take_zero, List.length_cons, List.length_nil], fun t => ?_⟩
    simp only [evF, List.take_succ_cons, List.take_zero, List.map_cons, List.map_nil, cvI, ev_sumR, ev_prodR, emp_ev, Int.zero_add]
  · have e : btB [a0, a1] [b0, b1, b2] = [sumR [] (prodR a0 b0), sumR (sumR [] (prodR a0 b1)) (prodR a1 b0), sumR (sumR [] (prodR a0 b2)) (prodR a1 b1), sumR [] (prodR a1 b2), []] := rfl
    rw [e, cut_eq (m := 3) (by show 3 < 5; decide) (top_prod (trF a1 (by simp)) (trG b2 (by simp)) tF tG fun t => by rw [show List.getD _ 3 [] = sumR [] (prodR a1 b2) from rfl, ev_sumR, ev_prodR, emp_ev, Int.zero_add]) (fun i hi => by
      match i, hi with
      | 4, _ => rfl
      | n + 5, _ => rfl)]
    refine ⟨by simp only [List.take_succ_cons, List.take_zero, List.length_cons, List.length_nil], fun t => ?_⟩
    simp only [evF, List.take_succ_cons, List.take_zero, List.map_cons, List.map_nil, cvI, ev_sumR, ev_prodR, emp_ev, Int.zero_add]
  · have e : btB [a0, a1, a2] [b0, b1] = [sumR [] (prodR a0 b0), sumR (sumR [] (prodR a0 b1)) (prodR a1 b0), sumR (sumR [] (prodR a1 b1)) (prodR a2 b0), sumR [] (prodR a2 b1), []] := rfl
    rw [e, cut_eq (m := 3) (by show 3 < 5; decide) (top_prod (trF a2 (by simp)) (trG b1 (by simp)) tF tG fun t => by rw [show List.getD _ 3 [] = sumR [] (prodR a2 b1) from rfl, ev_sumR, ev_prodR, emp_ev, Int.zero_add]) (fun i hi => by
      match i, hi with
      | 4, _ => rfl
      | n + 5, _ => rfl)]
    refine ⟨by simp only [List.take_succ_cons, List.take_zero, List.length_cons, List.length_nil], fun t => ?_⟩
    simp only [evF, List.take_succ_cons, List.take_zero, List.map_cons, List.map_nil, cvI, ev_sumR, ev_prodR, emp_ev, Int.zero_add]
  · have e : btB [a0, a1, a2] [b0, b1, b2] = [sumR [] (prodR a0 b0), sumR (sumR [] (prodR a0 b1)) (prodR a1 b0), sumR (sumR (sumR [] (prodR a0 b2)) (prodR a1 b1)) (prodR a2 b0), sumR (sumR [] (prodR a1 b2)) (prodR a2 b1), sumR [] (prodR a2 b2), []] := rfl
    rw [e, cut_eq (m := 4) (by show 4 < 6; decide) (top_prod (trF a2 (by simp)) (trG b2 (by simp)) tF tG fun t => by rw [show List.getD _ 4 [] = sumR [] (prodR a2 b2) from rfl, ev_sumR, ev_prodR, emp_ev, Int.zero_add]) (fun i hi => by
      match i, hi with
      | 5, _ => rfl
      | n + 6, _ => rfl)]
    refine ⟨by simp only [List.take_succ_cons, List.take_zero, List.length_cons, List.length_nil], fun t => ?_⟩
    simp only [evF, List.take_succ_cons, List.take_zero, List.map_cons, List.map_nil, cvI, ev_sumR, ev_prodR, emp_ev, Int.zero_add]
theorem bt_ok {F G : Bd} (hF : GB F) (hG : GB G) : BdOk 6 28 (cutB (btB F G)) := by
  have h := rowsB_ok hF.ok hG.ok F.length
  have lF := hF.len
  have lG := hG.len
  have hb : F.length * (G.length * 2 ^ (12 + 12)) ≤ 2 ^ 28 := by
    have : F.length * (G.length * 2 ^ 24) ≤ 3 * (3 * 2 ^ 24) := Nat.mul_le_mul (by omega) (Nat.mul_le_mul_right _ (by omega))
    exact Nat.le_trans this (by decide)
  refine ⟨fun l hl => h.tr l (List.mem_of_mem_take hl), fun l hl => ?_⟩
  have := h.ok l (List.mem_of_mem_take hl)
  exact ⟨Nat.le_trans this.1 hb, this.2⟩
end T92
end

section
set_option maxRecDepth 100000
set_option maxHeartbeats 4000000
namespace T92
open PySem L2 Pe
/-! values of boards of dicts -/
theorem ev_map_add (f g : Nat → Int) (t : Int) : ∀ n, ev ((List.range n).map fun i => f i + g i) t = ev ((List.range n).map f) t + ev ((List.range n).map g) t := by
  intro n
  induction n generalizing f g with
  | zero => rfl
  | succ n ih =>
    rw [List.range_succ_eq_map, List.map_cons, List.map_cons, List.map_cons, List.map_map, List.map_map, List.map_map]
    show f 0 + g 0 + t * ev ((List.range n).map fun i => f (i + 1) + g (i + 1)) t = (f 0 + t * ev ((List.range n).map fun i => f (i + 1)) t) + (g 0 + t * ev ((List.range n).map fun i => g (i + 1)) t)
    rw [ih (fun i => f (i + 1)) fun i => g (i + 1)]
    grind
theorem ev_map_zero (t : Int) : ∀ n, ev ((List.range n).map fun _ => (0 : Int)) t = 0 := by
  intro n
  induction n with
  | zero => rfl
  | succ n ih =>
    rw [List.range_succ_eq_map, List.map_cons, List.map_map]
    show 0 + t * ev ((List.range n).map fun _ => (0 : Int)) t = 0
    rw [ih]
    omega
theorem ev_map_one (v t : Int) : ∀ (n i0 : Nat), i0 < n → ev ((List.range n).map fun i => if i = i0 then v else 0) t = v * t ^ i0 := by
  intro n
  induction n with
  | zero => intro i0 h; omega
  | succ n ih =>
    intro i0 h
    rw [List.range_succ_eq_map, List.map_cons, List.map_map]
    cases i0 with
    | zero =>
      show v + t * ev ((List.range n).map ((fun i => if i = 0 then v else 0) ∘ Nat.succ)) t = v * t ^ 0
      have e : ((fun i => if i = 0 then v else 0) ∘ Nat.succ) = fun _ : Nat => (0 : Int) := by
        funext i
        simp
      rw [e, ev_map_zero, Int.pow_zero]
      omega
    | succ i0 =>
      show 0 + t * ev ((List.range n).map ((fun i => if i = i0 + 1 then v else 0) ∘ Nat.succ)) t = v * t ^ (i0 + 1)
      have e : ((fun i => if i = i0 + 1 then v else 0) ∘ Nat.succ) = fun i : Nat => if i = i0 then v else 0 := by
        funext i
        simp
      rw [e, ih i0 (by omega), Int.pow_succ]
      grind
theorem lookI_cons {e : (Nat × Nat) × Int} {E : EI} (h : NoI (e :: E)) (p : Nat × Nat) : lookI (e :: E) p = lookI E p + if p = e.1 then e.2 else 0 := by
  unfold NoI at h
  rw [List.map_cons, List.nodup_cons] at h
  show (if e.1 = p then e.2 else lookI E p) = _
  by_cases hp : e.1 = p
  · rw [if_pos hp, if_pos hp.symm, ← hp, lookI_no E e.1 h.1]
    omega
  · rw [if_neg hp, if_neg fun z => hp z.symm]
    omega
theorem val_grid (t y : Int) : ∀ (E : EI), NoI E → (∀ e ∈ E, e.1.1 ≤ 8 ∧ e.1.2 ≤ 8) → ev ((List.range 9).map fun k => ev (cofI E k 9) t) y = val E t y
  | [], _, _ => by
    have e : (fun k => ev (cofI [] k 9) t) = fun _ : Nat => (0 : Int) := by
      funext k
      unfold cofI
      exact ev_map_zero t 9
    rw [e, ev_map_zero]
    rfl
  | e :: E, hn, hk => by
    have hn' : NoI E := by
      unfold NoI at hn ⊢
      rw [List.map_cons, List.nodup_cons] at hn
      exact hn.2
    have ke := hk e List.mem_cons_self
    have e1 : (fun k => ev (cofI (e :: E) k 9) t) = fun k => ev (cofI E k 9) t + (if k = e.1.2 then e.2 * t ^ e.1.1 else 0) := by
      funext k
      unfold cofI
      have : (fun i => lookI (e :: E) (i, k)) = fun i => lookI E (i, k) + (if i = e.1.1 then (if k = e.1.2 then e.2 else 0) else 0) := by
        funext i
        rw [lookI_cons hn]
        congr 1
        by_cases h1 : i = e.1.1
        · by_cases h2 : k = e.1.2
          · rw [if_pos h1, if_pos h2, if_pos (Prod.ext h1 h2)]
          · rw [if_pos h1, if_neg h2, if_neg fun z => h2 (congrArg Prod.snd z)]
        · rw [if_neg h1, if_neg fun z => h1 (congrArg Prod.fst z)]
      rw [this, ev_map_add, ev_map_one _ t 9 e.1.1 (by omega)]
      split <;> simp
    rw [e1, ev_map_add, val_grid t y E hn' fun e he => hk e (List.mem_cons_of_mem _ he), ev_map_one _ y 9 e.1.2 (by omega)]
    show _ = e.2 * (t ^ e.1.1 * y ^ e.1.2) + val E t y
    grind
theorem rowI_val {I J B n : Nat} {E : EI} (h : OkI I J B n E) (hI : I ≤ 8) (hJ : J ≤ 8) {c : List Int} {t : Int} (hv : ∀ y, val E t y = ev c y) (k : Nat) (hk : k < 9) : ev (rowI E k) t = c.getD k 0 := by
  have g := get_inj (a := (List.range 9).map fun k => ev (cofI E k 9) t) (b := c) (fun y => by
    rw [val_grid t y E h.no fun e he => ⟨Nat.le_trans (h.kb e he).1 hI, Nat.le_trans (h.kb e he).2 hJ⟩, hv]) k
  unfold rowI
  rw [ev_trim, ← g, List.getD_eq_getElem?_getD, List.getElem?_map, List.getElem?_range hk]
  rfl
theorem rowsI_get (E : EI) (i : Nat) : (rowsI E 9).getD i [] = if i < 9 then rowI E i else [] := by
  unfold rowsI
  rw [List.getD_eq_getElem?_getD, List.getElem?_map]
  split
  · rename_i h
    rw [List.getElem?_range h]
    rfl
  · rename_i h
    rw [List.getElem?_eq_none (by rw [List.length_range]; omega)]
    rfl
theorem put_core {F : Bd} {E : EI} {m : Nat} (hF : GB F) (ok : OkI 4 2 (3 * 2 ^ 16) 36 E) (lF : F.length = m + 1) (hm : m ≤ 2) (s : Int → Int) (hsl : ∀ l : List Int, ∀ s, l.length = m + 1 → (shI l s).length = m + 1) (hst : ∀ l : List Int, ∀ s, l.length = m + 1 → (shI l s).getD m 0 = l.getD m 0)
    (hv : ∀ t y, val E t y = ev (shI (evF F t) (s t)) y) : (boardI E).length = m + 1 ∧ BdOk 5 21 (boardI E) ∧ ∀ t, evF (boardI E) t = shI (evF F t) (s t) := by
  have rv := fun t k (hk : k < 9) => rowI_val (c := shI (evF F t) (s t)) ok (by decide) (by decide) (hv t) k hk
  have lt : ∀ t, (shI (evF F t) (s t)).length = m + 1 := fun t => hsl _ _ (by rw [evF_len, lF])
  have top : F.getD m [] ≠ [] := by
    have := hF.top
    rw [lF] at this
    exact this
  have topT : Trimmed (F.getD m []) := by
    rw [List.getD_eq_getElem?_getD, List.getElem?_eq_getElem (by omega)]
    exact hF.ok.tr _ (List.getElem_mem _)
  have h1 : (rowsI E 9).getD m [] ≠ [] := fun z => by
    rw [rowsI_get, if_pos (by omega)] at z
    obtain ⟨T, hT⟩ := row_ne topT top
    refine hT T (Int.le_refl _) ?_
    have := rv T m (by omega)
    rw [z, hst _ _ (by rw [evF_len, lF]), evF_get] at this
    exact this.symm
  have h2 : ∀ i, m < i → (rowsI E 9).getD i [] = [] := fun i hi => by
    rw [rowsI_get]
    split
    · rename_i h9
      refine row_nil (rowI_ok ok i).1 fun t => ?_
      rw [rv t i h9, List.getD_eq_getElem?_getD, List.getElem?_eq_none (by rw [lt]; omega)]
      rfl
    · rfl
  have e : boardI E = rowsI E (m + 1) := by
    unfold boardI
    rw [cut_eq (by unfold rowsI; rw [List.length_map, List.length_range]; omega) h1 h2]
    unfold rowsI
    rw [← List.map_take, List.take_range, Nat.min_eq_left (by omega)]
  rw [e]
  have len : (rowsI E (m + 1)).length = m + 1 := by
    unfold rowsI
    rw [List.length_map, List.length_range]
  refine ⟨len, ⟨fun l hl => ?_, fun l hl => ?_⟩, fun t => ?_⟩
  · unfold rowsI at hl
    obtain ⟨k, _, rfl⟩ := List.mem_map.mp hl
    exact (rowI_ok ok k).1
  · unfold rowsI at hl
    obtain ⟨k, _, rfl⟩ := List.mem_map.mp hl
    have := (rowI_ok ok k).2
    exact ⟨Nat.le_trans this.2 (by decide), this.1⟩
  · apply List.ext_getElem?
    intro i
    rcases Nat.lt_or_ge i (m + 1) with h | h
    · have e3 : (evF (rowsI E (m + 1)) t)[i]? = some (ev (rowI E i) t) := by
        unfold evF rowsI
        rw [List.map_map, List.getElem?_map, List.getElem?_range h]
        rfl
      rw [e3]
      have := rv t i (by omega)
      rw [List.getD_eq_getElem?_getD, List.getElem?_eq_getElem (by rw [lt]; exact h)] at this
      rw [List.getElem?_eq_getElem (show i < (shI (evF F t) (s t)).length by rw [lt]; exact h)]
      exact congrArg some this
    · rw [List.getElem?_eq_none (by rw [evF_len, len]; omega), List.getElem?_eq_none (by rw [lt]; omega)]
theorem put_val {F : Bd} {c : Int} {a : Nat} (hF : GB F) (hc : c.natAbs ≤ 3) (ha : a ≤ 1) : (putB F c a).length = F.length ∧ BdOk 5 21 (putB F c a) ∧ ∀ t, evF (putB F c a) t = shI (evF F t) (c * t ^ a) := by
  obtain ⟨f1, f2⟩ := fnd_ok hF hc ha F.length (Nat.le_refl _)
  have lF := hF.len
  have ok := f1.mono (Nat.le_refl _) (Nat.le_refl _) (show F.length * 2 ^ 16 ≤ 3 * 2 ^ 16 from Nat.mul_le_mul_right _ (by omega)) (show 12 * F.length ≤ 36 by omega)
  unfold putB
  rcases two_threeB hF.len with ⟨a0, a1, rfl⟩ | ⟨a0, a1, a2, rfl⟩
  · refine put_core (m := 1) hF ok rfl (by decide) (fun t => c * t ^ a) (fun l s h => ?_) (fun l s h => ?_) fun t y => ?_
    · match l, h with
      | [_, _], _ => rfl
    · match l, h with
      | [_, _], _ => rfl
    · rw [f2]
      show 0 + ev a0 t * (y + c * t ^ a) ^ 0 + ev a1 t * (y + c * t ^ a) ^ 1 = (ev a0 t + ev a1 t * (c * t ^ a)) + y * (ev a1 t + y * 0)
      rw [Int.pow_zero, Int.pow_succ, Int.pow_zero]
      grind
  · refine put_core (m := 2) hF ok rfl (by decide) (fun t => c * t ^ a) (fun l s h => ?_) (fun l s h => ?_) fun t y => ?_
    · match l, h with
      | [_, _, _], _ => rfl
    · match l, h with
      | [_, _, _], _ => rfl
    · rw [f2]
      show 0 + ev a0 t * (y + c * t ^ a) ^ 0 + ev a1 t * (y + c * t ^ a) ^ 1 + ev a2 t * (y + c * t ^ a) ^ 2 = (ev a0 t + ev a1 t * (c * t ^ a) + ev a2 t * (c * t ^ a) ^ 2) + y * ((ev a1 t + 2 * ev a2 t * (c * t ^ a)) + y * (ev a2 t + y * 0))
      rw [Int.pow_zero]
      grind
/-! times a number -/
theorem ev_tim (c t : Int) : ∀ l : List Int, ev (l.map (· * c)) t = ev l t * c
  | [] => by simp [ev]
  | a :: l => by
    show a * c + t * ev (l.map (· * c)) t = (a + t * ev l t) * c
    rw [ev_tim c t l]
    grind
theorem nm_tim (c : Int) : ∀ l : List Int, nm (l.map (· * c)) = nm l * c.natAbs
  | [] => by simp [nm]
  | a :: l => by
    show (a * c).natAbs + nm (l.map (· * c)) = (a.natAbs + nm l) * c.natAbs
    rw [nm_tim c l, Int.natAbs_mul, Nat.add_mul]
theorem tim_val {F : Bd} {c : Int} (hF : GB F) (h0 : c ≠ 0) (hc : c.natAbs ≤ 4) : (timB F c).length = F.length ∧ BdOk 5 21 (timB F c) ∧ ∀ t, evF (timB F c) t = (evF F t).map (· * c) := by
  refine ⟨List.length_map .., ⟨fun l hl => ?_, fun l hl => ?_⟩, fun t => ?_⟩
  · obtain ⟨l', h1, rfl⟩ := List.mem_map.mp hl
    intro e he
    rw [List.length_map] at he
    have := hF.ok.tr l' h1 e he
    rw [List.getD_eq_getElem?_getD, List.getElem?_map]
    rw [List.getD_eq_getElem?_getD] at this
    rw [List.getElem?_eq_getElem (by omega)] at this ⊢
    exact Int.mul_ne_zero this h0
  · obtain ⟨l', h1, rfl⟩ := List.mem_map.mp hl
    have := hF.ok.ok l' h1
    rw [nm_tim, List.length_map]
    refine ⟨Nat.le_trans (Nat.mul_le_mul this.1 hc) (by decide), by omega⟩
  · unfold evF timB
    rw [List.map_map, List.map_map]
    apply List.map_congr_left
    intro l _
    exact ev_tim c t l
end T92
end

section
set_option maxRecDepth 100000
set_option maxHeartbeats 8000000
namespace T92
open PySem L2 Pe
theorem BdOk.mono {L k L' k' : Nat} {F : Bd} (h : BdOk L k F) (hL : L ≤ L') (hk : k ≤ k') : BdOk L' k' F :=
  ⟨h.tr, fun l hl => ⟨Nat.le_trans (h.ok l hl).1 (Nat.pow_le_pow_right (by decide) hk), Nat.le_trans (h.ok l hl).2 hL⟩⟩
theorem row_eqd (a b : List Int) : eqd (rowD a) (rowD b) = decide (a = b) := by
  rw [rowD_eq, rowD_eq]
  exact kd_eq a b
structure TieOk (F G : Bd) (j : Nat) : Prop where
  does : Does 5 11 [boardD F, boardD G, .int j] (rowD (tieE F G j))
  tr : Trimmed (tieE F G j)
  len : (tieE F G j).length ≤ 43
  nm : nm (tieE F G j) ≤ 2 ^ 186
  val : ∀ t, ev (tieE F G j) t = tieI (evF F t) (evF G t) j
theorem tie_ok {F G : Bd} {j : Nat} (hF : BdOk 6 28 F) (hG : BdOk 6 28 G) (h : F.length + G.length ≤ 8 + 2 * j) (h1 : j + 1 ≤ F.length) (h2 : j + 1 ≤ G.length) (h3 : F.length + G.length ≤ 2 ^ 10) : TieOk F G j := by
  obtain ⟨q1, q2, q3, _⟩ := detE_row (tab_ok hF hG h h1 h2)
  refine ⟨f_tie hF hG h h1 h2 h3 (by decide) (by decide), ?_, ?_, ?_, ev_tie hF hG h h1 h2⟩
  · unfold tieE
    exact q1
  · unfold tieE
    exact q2
  · unfold tieE
    exact q3
theorem tie_same {F G F' G' : Bd} {j : Nat} (a : TieOk F G j) (b : TieOk F' G' j) (h : ∀ t, tieI (evF F t) (evF G t) j = tieI (evF F' t) (evF G' t) j) : tieE F G j = tieE F' G' j :=
  ev_inj _ _ a.tr b.tr fun t _ => by rw [a.val, b.val, h]
theorem GB.big {F : Bd} (h : GB F) : BdOk 6 28 F := h.ok.mono (by decide) (by decide)
theorem f_turned {F G : Bd} (hF : GB F) (hG : GB G) (xs : List Int) (hx : 2 ≤ xs.length) : Does 7 25 [boardD F, boardD G, .list (xs.map .int)] (.bool true) := by
  have lF := hF.len
  have lG := hG.len
  have lenF : (F.map rowD).length = F.length := List.length_map ..
  have lenG : (G.map rowD).length = G.length := List.length_map ..
  generalize hm : min F.length G.length = m
  have at0 := getD_int xs 0 (by omega)
  have at1 := getD_int xs 1 (by omega)
  generalize hx0 : xs.getD 0 0 = x0 at at0
  generalize hx1 : xs.getD 1 0 = x1 at at1
  have c1 := fm_lo x0 (b := 7) (by decide)
  have c2 := fm_hi x0 (b := 7) (by decide)
  generalize hc : x0.fmod 7 - 3 = c
  have hc3 : c.natAbs ≤ 3 := by omega
  have d1 := fm_lo x1 (b := 4) (by decide)
  have d2 := fm_hi x1 (b := 4) (by decide)
  have base : ∀ k, k < m → TieOk F G k := fun k hk => tie_ok hF.big hG.big (by omega) (by omega) (by omega) (by omega)
  have evl : ∀ {H : Bd}, GB H → ∀ t, (evF H t).length = 2 ∨ (evF H t).length = 3 := fun h t => by
    rw [evF_len]
    exact h.len
  -- y + c x^a
  have put : ∀ a k, a ≤ 1 → k < m → TieOk (putB F c a) (putB G c a) k ∧ tieE (putB F c a) (putB G c a) k = tieE F G k := fun a k ha hk => by
    obtain ⟨p1, p2, p3⟩ := put_val hF hc3 ha
    obtain ⟨q1, q2, q3⟩ := put_val hG hc3 ha
    have b := tie_ok (F := putB F c a) (G := putB G c a) (j := k) (p2.mono (by decide) (by decide)) (q2.mono (by decide) (by decide)) (by omega) (by omega) (by omega) (by omega)
    refine ⟨b, tie_same b (base k hk) fun t => ?_⟩
    rw [p3, q3]
    exact id_shift (evl hF t) (evl hG t) _ k (by rw [evF_len, evF_len]; omega)
  -- the number
  obtain ⟨e, he0, he4, heq⟩ : ∃ e : Int, e ≠ 0 ∧ e.natAbs ≤ 4 ∧ atI [PyData.int 2, .int (-1), .int 3, .int (-2)] (x1.fmod 4) = some (.int e) := by
    have : x1.fmod 4 = 0 ∨ x1.fmod 4 = 1 ∨ x1.fmod 4 = 2 ∨ x1.fmod 4 = 3 := by omega
    rcases this with q | q | q | q <;> rw [q]
    · exact ⟨2, by decide, by decide, at_nat (i := 0) rfl⟩
    · exact ⟨-1, by decide, by decide, at_nat (i := 1) rfl⟩
    · exact ⟨3, by decide, by decide, at_nat (i := 2) rfl⟩
    · exact ⟨-2, by decide, by decide, at_nat (i := 3) rfl⟩
  obtain ⟨t1, t2, t3⟩ := tim_val hF he0 he4
  have scale : ∀ k, k < m → TieOk (timB F e) G k ∧ tieE (timB F e) G k = trim (pm (tieE F G k) (oftN [e] (G.length - 1 - k))) := fun k hk => by
    have b := tie_ok (F := timB F e) (G := G) (j := k) (t2.mono (by decide) (by decide)) hG.big (by omega) (by omega) (by omega) (by omega)
    refine ⟨b, ev_inj _ _ b.tr (trim_trimmed _) fun t _ => ?_⟩
    obtain ⟨_, _, _, o4⟩ := oft_ok (l := [e]) (L := 1) (k := 3) (by show 1 ≤ 1; decide) (by show e.natAbs + 0 ≤ 8; omega) (G.length - 1 - k)
    rw [b.val, t3, ev_trim, ev_pm, (base k hk).val, o4, id_scale (evl hF t) (evl hG t) e k (by rw [evF_len, evF_len]; omega), evF_len]
    congr 2
    show e = e + t * 0
    omega
  have turn : ∀ k, k < m → TieOk G F k ∧ tieE G F k = trim (pm (tieE F G k) [if ((F.length - 1 - k) * (G.length - 1 - k)) % 2 = 1 then -1 else 1]) := fun k hk => by
    have b := tie_ok (F := G) (G := F) (j := k) hG.big hF.big (by omega) (by omega) (by omega) (by omega)
    refine ⟨b, ev_inj _ _ b.tr (trim_trimmed _) fun t _ => ?_⟩
    rw [b.val, ev_trim, ev_pm, (base k hk).val, id_turn (evl hF t) (evl hG t) k (by rw [evF_len, evF_len]; omega), evF_len, evF_len]
    congr 1
    show _ = _ + t * 0
    omega
  refine does_of (fn := fn25) rfl rfl fun n hn => ?_
  have hmin : (if ((G.map rowD).length : Int) < ((F.map rowD).length : Int) then ((G.map rowD).length : Int) else ((F.map rowD).length : Int)) = (m : Int) := by
    rw [lenF, lenG]
    split <;> omega
  conv => whnf
  rw [hmin]
  refine ⟨_, _, rfl, at_nat (i := 0) at0, ?_⟩
  conv => whnf
  refine ⟨by decide, ?_⟩
  conv => whnf
  rw [hc]
  refine ⟨⟨by decide, by decide⟩, ?_⟩
  refine for_rule (fun a ρ => ∃ s5 s6 s7 s8 s9 s10, ρ = [.im (boardD F), .im (boardD G), .im (.list (xs.map .int)), .im (.int m), .im (.int c), s5, s6, s7, s8, s9, s10]) (fun a x ρ N hx hI hN => ?_) (fun ρ hI => ?_) ⟨_, _, _, _, _, _, rfl⟩
  · obtain ⟨ha, rfl⟩ := rgD_at hx
    have ha : a < 2 := ha
    obtain ⟨s5, s6, s7, s8, s9, s10, rfl⟩ := hI
    rw [Int.zero_add]
    conv => whnf
    refine ⟨_, f_put hF hc3 (show a ≤ 1 by omega) n (by omega), ?_⟩
    conv => whnf
    refine ⟨_, f_put hG hc3 (show a ≤ 1 by omega) n (by omega), ?_⟩
    conv => whnf
    refine ⟨⟨by omega, by omega⟩, ?_⟩
    rw [Int.toNat_natCast]
    refine for_rule (fun k ρ => ∃ s6 s7 s8, ρ = [.im (boardD F), .im (boardD G), .im (.list (xs.map .int)), .im (.int m), .im (.int c), .im (.int a), s6, s7, s8, .im (boardD (putB F c a)), .im (boardD (putB G c a))]) (fun k x ρ N' hx hI hN' => ?_) (fun ρ hI => ?_) ⟨_, _, _, rfl⟩
    · obtain ⟨hk, rfl⟩ := rgD_at hx
      obtain ⟨s6, s7, s8, rfl⟩ := hI
      rw [Int.zero_add]
      obtain ⟨z1, z2⟩ := put a k (by omega) hk
      conv => whnf
      refine ⟨_, z1.does n (by omega), ?_⟩
      conv => whnf
      refine ⟨_, (base k hk).does n (by omega), ?_⟩
      conv => whnf
      refine ⟨row_ok _, row_ok _, ?_⟩
      rw [row_eqd, z2]
      conv => whnf
      refine ⟨_, rfl, ?_⟩
      refine ifF (by rw [decide_eq_true rfl]; rfl) ?_
      conv => whnf
      exact hN' _ ⟨_, _, _, rfl⟩
    · obtain ⟨s6, s7, s8, rfl⟩ := hI
      exact hN _ ⟨_, _, _, _, _, _, rfl⟩
  · obtain ⟨s5, s6, s7, s8, s9, s10, rfl⟩ := hI
    have one : ∀ v : Int, PyData.tuple [.int v] = rowD [v] := fun v => by
      rw [rowD_eq]
      rfl
    conv => whnf
    refine ⟨_, rfl, ?_⟩
    conv => whnf
    refine ⟨_, rfl, ?_⟩
    conv => whnf
    refine ⟨by show 4 ≤ sizeLine; decide, ?_⟩
    conv => whnf
    refine ⟨_, _, rfl, at_nat (i := 1) at1, ?_⟩
    conv => whnf
    refine ⟨by decide, ?_⟩
    conv => whnf
    refine ⟨_, _, rfl, heq, ?_⟩
    conv => whnf
    refine ⟨⟨by omega, by omega⟩, ?_⟩
    rw [Int.toNat_natCast]
    refine for_rule (fun k ρ => ∃ s5 s6 s7 s8 s9 s10, ρ = [.im (boardD F), .im (boardD G), .im (.list (xs.map .int)), .im (.int m), .im (.int e), s5, s6, s7, s8, s9, s10]) (fun k x ρ N' hx hI hN' => ?_) (fun ρ hI => ?_) ⟨_, _, _, _, _, _, rfl⟩
    · obtain ⟨hk, rfl⟩ := rgD_at hx
      obtain ⟨s5, s6, s7, s8, s9, s10, rfl⟩ := hI
      rw [Int.zero_add]
      obtain ⟨z1, z2⟩ := scale k hk
      obtain ⟨u1, u2⟩ := turn k hk
      have b := base k hk
      have en : ((G.length : Int) - 1 - (k : Int)) = ((G.length - 1 - k : Nat) : Int) := by omega
      have em : ((F.length : Int) - 1 - (k : Int)) = ((F.length - 1 - k : Nat) : Int) := by omega
      have nm1 : nm [e] ≤ 2 ^ 3 := by
        show e.natAbs + 0 ≤ 8
        omega
      obtain ⟨o1, o2, o3, _⟩ := oft_ok (l := [e]) (L := 1) (k := 3) (by show 1 ≤ 1; decide) nm1 (G.length - 1 - k)
      have o3' : nm (oftN [e] (G.length - 1 - k)) ≤ 2 ^ 6 := Nat.le_trans o3 (Nat.pow_le_pow_right (by decide) (by omega))
      conv => whnf
      refine ⟨_, b.does n (by omega), ?_⟩
      conv => whnf
      refine ⟨_, f_times (c := e) (by omega) hF.ok (by decide) (by omega) n (by omega), ?_⟩
      conv => whnf
      refine ⟨_, z1.does n (by omega), ?_⟩
      conv => whnf
      refine ⟨by show 1 ≤ sizeLine; decide, ?_⟩
      conv => whnf
      rw [lenG, en, one]
      refine ⟨_, f_often (l := [e]) (L := 1) (k := 3) (by show 1 ≤ 1; decide) nm1 (G.length - 1 - k) (by omega) (by decide) (by decide) n (by omega), ?_⟩
      conv => whnf
      refine ⟨_, f_row_times (tieE F G k) (oftN [e] (G.length - 1 - k)) (k := 186) (k' := 6) (by have := b.len; omega) (by omega) b.nm o3' (by decide) n (by omega), ?_⟩
      conv => whnf
      refine ⟨row_ok _, row_ok _, ?_⟩
      rw [row_eqd, z2]
      conv => whnf
      refine ⟨_, rfl, ?_⟩
      refine ifF (by rw [decide_eq_true rfl]; rfl) ?_
      conv => whnf
      refine ⟨_, rfl, ?_⟩
      conv => whnf
      refine ⟨by show 2 ≤ sizeLine; decide, ?_⟩
      conv => whnf
      refine ⟨mul_l (by rw [lenF]; omega) (by rw [lenF]; omega), ?_⟩
      rw [lenF, lenG, em, en, ← Int.natCast_mul]
      conv => whnf
      refine ⟨by decide, ?_⟩
      generalize hq : (F.length - 1 - k) * (G.length - 1 - k) = q at u2
      have hmd : ((q : Int)).fmod 2 = ((q % 2 : Nat) : Int) := by
        rw [Int.fmod_eq_emod_of_nonneg _ (by decide)]
        omega
      rw [hmd]
      conv => whnf
      refine ⟨_, .int (if q % 2 = 1 then -1 else 1), rfl, ?_, ?_⟩
      · have : q % 2 = 0 ∨ q % 2 = 1 := by omega
        rcases this with z | z <;> rw [z]
        · exact at_nat (i := 0) rfl
        · exact at_nat (i := 1) rfl
      · conv => whnf
        refine ⟨_, u1.does n (by omega), ?_⟩
        conv => whnf
        refine ⟨by show 1 ≤ sizeLine; decide, ?_⟩
        rw [one]
        conv => whnf
        refine ⟨_, f_row_times (tieE F G k) [if q % 2 = 1 then -1 else 1] (k := 186) (k' := 6) (by have := b.len; omega) (by show 1 ≤ _; decide) b.nm (by split <;> decide) (by decide) n (by omega), ?_⟩
        conv => whnf
        refine ⟨row_ok _, row_ok _, ?_⟩
        rw [row_eqd, u2]
        conv => whnf
        refine ⟨_, rfl, ?_⟩
        refine ifF (by rw [decide_eq_true rfl]; rfl) ?_
        conv => whnf
        exact hN' _ ⟨_, _, _, _, _, _, rfl⟩
    · obtain ⟨s5, s6, s7, s8, s9, s10, rfl⟩ := hI
      conv => whnf
end T92
end

section
set_option maxRecDepth 100000
set_option maxHeartbeats 8000000
namespace T92
open PySem L2 Pe
theorem bools_rep : ∀ n : Nat, boolsOf (List.replicate n (.bool false)) = some (List.replicate n false)
  | 0 => rfl
  | n + 1 => by
    rw [List.replicate_succ]
    show (boolsOf (List.replicate n (.bool false))).map (false :: ·) = _
    rw [bools_rep n]
    rfl
theorem any_rep (n : Nat) : (List.replicate n false).any id = false := by
  induction n with
  | zero => rfl
  | succ n ih =>
    rw [List.replicate_succ, List.any_cons, ih]
    rfl
theorem f_law (ns : List Int) : Does 8 26 [.list (ns.map .int)] (.bool true) := by
  obtain ⟨v, hv⟩ : ∃ v : Nat → Int, ∀ k : Nat, k ≤ 3 → Does 1 12 [.list (ns.map .int), .int k] (.int (v k)) := by
    refine ⟨fun k => if h : k ≤ 3 then Classical.choose (f_cell ns k h) else 0, fun k h => ?_⟩
    show Does 1 12 _ (.int (if h : k ≤ 3 then Classical.choose (f_cell ns k h) else 0))
    rw [dif_pos h]
    exact Classical.choose_spec (f_cell ns k h)
  obtain ⟨Fs, hFs⟩ : ∃ Fs : Nat → Bd, ∀ k, GB (Fs k) ∧ Does 4 21 [.int (v k)] (boardD (Fs k)) := ⟨fun k => Classical.choose (f_drawn (v k)), fun k => Classical.choose_spec (f_drawn (v k))⟩
  obtain ⟨s0, d0, fx⟩ := f_numbers (v 3) 2 (by decide)
  have lx := nums_len s0 d0 2
  generalize nums s0 d0 2 = xs at fx lx
  obtain ⟨F, hF⟩ : ∃ F, F = Fs 0 := ⟨_, rfl⟩
  obtain ⟨G, hG⟩ : ∃ G, G = Fs 1 := ⟨_, rfl⟩
  obtain ⟨H, hH⟩ : ∃ H, H = Fs 2 := ⟨_, rfl⟩
  have gF : GB F := by rw [hF]; exact (hFs 0).1
  have gG : GB G := by rw [hG]; exact (hFs 1).1
  have gH : GB H := by rw [hH]; exact (hFs 2).1
  have lF := gF.len
  have lG := gG.len
  have lH := gH.len
  have lenF : (F.map rowD).length = F.length := List.length_map ..
  have lenG : (G.map rowD).length = G.length := List.length_map ..
  have evl : ∀ {H : Bd}, GB H → ∀ t, (evF H t).length = 2 ∨ (evF H t).length = 3 := fun h t => by
    rw [evF_len]
    exact h.len
  obtain ⟨b1, b2⟩ := bt_val gG gH
  have b3 := bt_ok gG gH
  obtain ⟨w1, w2⟩ := bt_val gF gG
  have w3 := bt_ok gF gG
  have tFG := tie_ok (F := F) (G := G) (j := 0) gF.big gG.big (by omega) (by omega) (by omega) (by omega)
  have tFH := tie_ok (F := F) (G := H) (j := 0) gF.big gH.big (by omega) (by omega) (by omega) (by omega)
  have tB := tie_ok (F := F) (G := cutB (btB G H)) (j := 0) gF.big b3 (by omega) (by omega) (by omega) (by omega)
  have first : tieE F (cutB (btB G H)) 0 = trim (pm (tieE F G 0) (tieE F H 0)) := ev_inj _ _ tB.tr (trim_trimmed _) fun t _ => by
    rw [tB.val, b2, ev_trim, ev_pm, tFG.val, tFH.val, id_prod (evl gF t) (evl gG t) (evl gH t)]
  have tW : ∀ k, k + 1 ≤ F.length → TieOk F (cutB (btB F G)) k := fun k hk => tie_ok gF.big w3 (by omega) (by omega) (by omega) (by omega)
  have below : ∀ k, k + 1 < F.length → tieE F (cutB (btB F G)) k = [] := fun k hk => by
    refine row_nil (tW k (by omega)).tr fun t => ?_
    rw [(tW k (by omega)).val, w2]
    have : k = 0 ∨ (k = 1 ∧ F.length = 3) := by omega
    rcases this with rfl | ⟨rfl, h3⟩
    · exact id_whole0 (evl gF t) (evl gG t)
    · exact id_whole1 (by rw [evF_len]; exact h3) (evl gG t)
  obtain ⟨m, hm⟩ : ∃ m, F.length = m + 1 := ⟨F.length - 1, by omega⟩
  have topOk := rows_at gF.ok m
  have top : tieE F (cutB (btB F G)) m = oftN (F.getD m []) (G.length - 1) := by
    obtain ⟨o1, _, _, o4⟩ := oft_ok topOk.2 topOk.1 (G.length - 1)
    refine ev_inj _ _ (tW m (by omega)).tr o1 fun t _ => ?_
    rw [(tW m (by omega)).val, w2, o4]
    have := id_top (evl gF t) (evl gG t)
    rw [evF_len, evF_len, hm, Nat.add_sub_cancel, evF_get] at this
    exact this
  refine does_of (fn := fn26) rfl rfl fun n hn => ?_
  have big : 2 ^ 22 < sizeLine := by decide
  conv => whnf
  refine ⟨⟨by decide, by decide⟩, ?_⟩
  refine comp_rule (fun i acc ρ => acc = (List.range i).map (fun j => boardD (Fs j)) ∧ ∃ s7, ρ = [.im (.list (ns.map .int)), .un, .un, .un, .un, .un, .un, s7]) (fun i x acc ρ N hx hI hN => ?_) (fun acc ρ hI => ?_) ⟨rfl, _, rfl⟩
  · obtain ⟨hi, rfl⟩ := rgD_at hx
    have hi : i < 3 := hi
    obtain ⟨rfl, s7, rfl⟩ := hI
    rw [Int.zero_add]
    conv => whnf
    refine ⟨_, rfl, ?_⟩
    refine ifT rfl ?_
    conv => whnf
    refine ⟨_, hv i (by omega) n (by omega), ?_⟩
    conv => whnf
    refine ⟨_, (hFs i).2 n (by omega), ?_⟩
    conv => whnf
    refine ⟨by rw [List.length_map, List.length_range]; omega, hN _ _ ⟨?_, _, rfl⟩⟩
    rw [List.range_succ, List.map_append]
    rfl
  · obtain ⟨rfl, s7, rfl⟩ := hI
    rw [rgD_len]
    have e3 : (List.range (Int.toNat 3)).map (fun j => boardD (Fs j)) = [boardD F, boardD G, boardD H] := by
      rw [hF, hG, hH]
      rfl
    rw [e3]
    conv => whnf
    refine ⟨_, f_board_times gG.ok gH.ok (by decide) (by decide) (by omega) n (by omega), ?_⟩
    conv => whnf
    refine ⟨_, tB.does n (by omega), ?_⟩
    conv => whnf
    refine ⟨_, tFG.does n (by omega), ?_⟩
    conv => whnf
    refine ⟨_, tFH.does n (by omega), ?_⟩
    conv => whnf
    refine ⟨_, f_row_times (tieE F G 0) (tieE F H 0) (k := 186) (k' := 186) (by have := tFG.len; omega) (by have := tFH.len; omega) tFG.nm tFH.nm (by decide) n (by omega), ?_⟩
    conv => whnf
    refine ⟨row_ok _, row_ok _, ?_⟩
    rw [row_eqd, first]
    conv => whnf
    refine ⟨_, rfl, ?_⟩
    refine ifF (by rw [decide_eq_true rfl]; rfl) ?_
    conv => whnf
    refine ⟨_, f_board_times gF.ok gG.ok (by decide) (by decide) (by omega) n (by omega), ?_⟩
    have em : ((F.length : Int) - 1) = (m : Int) := by omega
    conv => whnf
    rw [lenF, em]
    refine ⟨⟨by omega, by omega⟩, ?_⟩
    rw [Int.toNat_natCast]
    refine comp_rule (fun i acc ρ => acc = List.replicate i (.bool false) ∧ ∃ s7, ρ = [.im (.list (ns.map .int)), .im (boardD (cutB (btB G H))), .im (boardD (cutB (btB F G))), .im (.int m), .im (boardD F), .im (boardD G), .im (boardD H), s7]) (fun i x acc ρ N hx hI hN => ?_) (fun acc ρ hI => ?_) ⟨rfl, _, rfl⟩
    · obtain ⟨hi, rfl⟩ := rgD_at hx
      obtain ⟨rfl, s7, rfl⟩ := hI
      rw [Int.zero_add]
      conv => whnf
      refine ⟨_, rfl, ?_⟩
      refine ifT rfl ?_
      conv => whnf
      refine ⟨_, (tW i (by omega)).does n (by omega), ?_⟩
      conv => whnf
      refine ⟨by decide, ?_⟩
      conv => whnf
      refine ⟨row_ok _, emp_ok, ?_⟩
      rw [row_emp, below i (by omega)]
      conv => whnf
      refine ⟨by rw [List.length_replicate]; omega, hN _ _ ⟨?_, _, rfl⟩⟩
      rw [List.replicate_succ']
      rfl
    · obtain ⟨rfl, s7, rfl⟩ := hI
      rw [rgD_len]
      conv => whnf
      refine ⟨_, bools_rep m, ?_⟩
      rw [any_rep]
      conv => whnf
      refine ⟨_, rfl, ?_⟩
      refine ifF rfl ?_
      conv => whnf
      refine ⟨_, (tW m (by omega)).does n (by omega), ?_⟩
      conv => whnf
      refine ⟨_, rfl, ?_⟩
      conv => whnf
      refine ⟨_, _, rfl, at_last (n := m) (by rw [lenF, hm]) (at_rows (by omega)), ?_⟩
      have en : ((G.length : Int) - 1) = ((G.length - 1 : Nat) : Int) := by omega
      conv => whnf
      rw [lenG, en]
      refine ⟨_, f_often topOk.2 topOk.1 (G.length - 1) (by omega) (by decide) (by decide) n (by omega), ?_⟩
      conv => whnf
      refine ⟨row_ok _, row_ok _, ?_⟩
      rw [row_eqd, top]
      conv => whnf
      refine ⟨_, rfl, ?_⟩
      refine ifF (by rw [decide_eq_true rfl]; rfl) ?_
      conv => whnf
      refine ⟨_, hv 3 (by decide) n (by omega), ?_⟩
      conv => whnf
      refine ⟨_, fx n (by omega), ?_⟩
      conv => whnf
      refine ⟨_, f_turned gF gG xs (by omega) n (by omega), ?_⟩
      conv => whnf
end T92
end

section
set_option maxRecDepth 100000
set_option maxHeartbeats 0
namespace T92
open PySem PySem.Spec PyProof.Rows L2 Pe
/-! the head's side conditions of each def -/
def blts : List Str := ["len", "range", "tuple", "list", "sorted", "max", "min", "any", "abs", "int"]
def tbH : Tb := { tb with bl := fun x => blts.contains x }
def allD {α : Type} (p : α → Prop) : List α → Prop
  | [] => True
  | d :: r => p d ∧ allD p r
theorem allD_get {α : Type} {p : α → Prop} : ∀ {l : List α} {i : Nat} {d : α}, allD p l → l[i]? = some d → p d
  | [], _, _, _, h => by simp at h
  | _ :: _, 0, _, a, h => by
    simp at h
    subst h
    exact a.1
  | _ :: r, i + 1, _, a, h => allD_get (l := r) (i := i) a.2 (by simpa using h)
def BndOk (d : Dt) : Prop := ∀ (kV doc pm : Value) (an : Option Addr) (cdv ct : Value) (us : List Value), us.length = d.ps.length → bindArgs (PySem.W.fnOf d.x d.x d.params d.body d.scope .none kV doc pm an cdv ct) ⟨us, []⟩ = pure (d.ps.zip us)
theorem ok_d0 : DtOk tbH d0 := ⟨⟨rfl, rfl, rfl, by decide +kernel, rfl, by decide +kernel, by decide +kernel⟩, rfl, rfl, by kernel_rfl⟩
theorem bn_d0 : BndOk d0 := fun _ _ _ _ _ _ us hl => match us, hl with | [_], _ => rfl
theorem ok_d1 : DtOk tbH d1 := ⟨⟨rfl, rfl, rfl, by decide +kernel, rfl, by decide +kernel, by decide +kernel⟩, rfl, rfl, by kernel_rfl⟩
theorem bn_d1 : BndOk d1 := fun _ _ _ _ _ _ us hl => match us, hl with | [_, _], _ => rfl
theorem ok_d2 : DtOk tbH d2 := ⟨⟨rfl, rfl, rfl, by decide +kernel, rfl, by decide +kernel, by decide +kernel⟩, rfl, rfl, by kernel_rfl⟩
theorem bn_d2 : BndOk d2 := fun _ _ _ _ _ _ us hl => match us, hl with | [_, _], _ => rfl
theorem ok_d3 : DtOk tbH d3 := ⟨⟨rfl, rfl, rfl, by decide +kernel, rfl, by decide +kernel, by decide +kernel⟩, rfl, rfl, by kernel_rfl⟩
theorem bn_d3 : BndOk d3 := fun _ _ _ _ _ _ us hl => match us, hl with | [_, _], _ => rfl
theorem ok_d4 : DtOk tbH d4 := ⟨⟨rfl, rfl, rfl, by decide +kernel, rfl, by decide +kernel, by decide +kernel⟩, rfl, rfl, by kernel_rfl⟩
theorem bn_d4 : BndOk d4 := fun _ _ _ _ _ _ us hl => match us, hl with | [_], _ => rfl
theorem ok_d5 : DtOk tbH d5 := ⟨⟨rfl, rfl, rfl, by decide +kernel, rfl, by decide +kernel, by decide +kernel⟩, rfl, rfl, by kernel_rfl⟩
theorem bn_d5 : BndOk d5 := fun _ _ _ _ _ _ us hl => match us, hl with | [_, _], _ => rfl
theorem ok_d6 : DtOk tbH d6 := ⟨⟨rfl, rfl, rfl, by decide +kernel, rfl, by decide +kernel, by decide +kernel⟩, rfl, rfl, by kernel_rfl⟩
theorem bn_d6 : BndOk d6 := fun _ _ _ _ _ _ us hl => match us, hl with | [_, _, _], _ => rfl
theorem ok_d7 : DtOk tbH d7 := ⟨⟨rfl, rfl, rfl, by decide +kernel, rfl, by decide +kernel, by decide +kernel⟩, rfl, rfl, by kernel_rfl⟩
theorem bn_d7 : BndOk d7 := fun _ _ _ _ _ _ us hl => match us, hl with | [_, _, _], _ => rfl
theorem ok_d8 : DtOk tbH d8 := ⟨⟨rfl, rfl, rfl, by decide +kernel, rfl, by decide +kernel, by decide +kernel⟩, rfl, rfl, by kernel_rfl⟩
theorem bn_d8 : BndOk d8 := fun _ _ _ _ _ _ us hl => match us, hl with | [_, _], _ => rfl
theorem ok_d9 : DtOk tbH d9 := ⟨⟨rfl, rfl, rfl, by decide +kernel, rfl, by decide +kernel, by decide +kernel⟩, rfl, rfl, by kernel_rfl⟩
theorem bn_d9 : BndOk d9 := fun _ _ _ _ _ _ us hl => match us, hl with | [_, _], _ => rfl
theorem ok_d10 : DtOk tbH d10 := ⟨⟨rfl, rfl, rfl, by decide +kernel, rfl, by decide +kernel, by decide +kernel⟩, rfl, rfl, by kernel_rfl⟩
theorem bn_d10 : BndOk d10 := fun _ _ _ _ _ _ us hl => match us, hl with | [_], _ => rfl
theorem ok_d11 : DtOk tbH d11 := ⟨⟨rfl, rfl, rfl, by decide +kernel, rfl, by decide +kernel, by decide +kernel⟩, rfl, rfl, by kernel_rfl⟩
theorem bn_d11 : BndOk d11 := fun _ _ _ _ _ _ us hl => match us, hl with | [_, _, _], _ => rfl
theorem ok_d12 : DtOk tbH d12 := ⟨⟨rfl, rfl, rfl, by decide +kernel, rfl, by decide +kernel, by decide +kernel⟩, rfl, rfl, by kernel_rfl⟩
theorem bn_d12 : BndOk d12 := fun _ _ _ _ _ _ us hl => match us, hl with | [_, _], _ => rfl
theorem ok_d13 : DtOk tbH d13 := ⟨⟨rfl, rfl, rfl, by decide +kernel, rfl, by decide +kernel, by decide +kernel⟩, rfl, rfl, by kernel_rfl⟩
theorem bn_d13 : BndOk d13 := fun _ _ _ _ _ _ us hl => match us, hl with | [_, _], _ => rfl
theorem ok_d14 : DtOk tbH d14 := ⟨⟨rfl, rfl, rfl, by decide +kernel, rfl, by decide +kernel, by decide +kernel⟩, rfl, rfl, by kernel_rfl⟩
theorem bn_d14 : BndOk d14 := fun _ _ _ _ _ _ us hl => match us, hl with | [_], _ => rfl
theorem ok_d15 : DtOk tbH d15 := ⟨⟨rfl, rfl, rfl, by decide +kernel, rfl, by decide +kernel, by decide +kernel⟩, rfl, rfl, by kernel_rfl⟩
theorem bn_d15 : BndOk d15 := fun _ _ _ _ _ _ us hl => match us, hl with | [_], _ => rfl
theorem ok_d16 : DtOk tbH d16 := ⟨⟨rfl, rfl, rfl, by decide +kernel, rfl, by decide +kernel, by decide +kernel⟩, rfl, rfl, by kernel_rfl⟩
theorem bn_d16 : BndOk d16 := fun _ _ _ _ _ _ us hl => match us, hl with | [_, _], _ => rfl
theorem ok_d17 : DtOk tbH d17 := ⟨⟨rfl, rfl, rfl, by decide +kernel, rfl, by decide +kernel, by decide +kernel⟩, rfl, rfl, by kernel_rfl⟩
theorem bn_d17 : BndOk d17 := fun _ _ _ _ _ _ us hl => match us, hl with | [_], _ => rfl
theorem ok_d18 : DtOk tbH d18 := ⟨⟨rfl, rfl, rfl, by decide +kernel, rfl, by decide +kernel, by decide +kernel⟩, rfl, rfl, by kernel_rfl⟩
theorem bn_d18 : BndOk d18 := fun _ _ _ _ _ _ us hl => match us, hl with | [_], _ => rfl
theorem ok_d19 : DtOk tbH d19 := ⟨⟨rfl, rfl, rfl, by decide +kernel, rfl, by decide +kernel, by decide +kernel⟩, rfl, rfl, by kernel_rfl⟩
theorem bn_d19 : BndOk d19 := fun _ _ _ _ _ _ us hl => match us, hl with | [_], _ => rfl
theorem ok_d20 : DtOk tbH d20 := ⟨⟨rfl, rfl, rfl, by decide +kernel, rfl, by decide +kernel, by decide +kernel⟩, rfl, rfl, by kernel_rfl⟩
theorem bn_d20 : BndOk d20 := fun _ _ _ _ _ _ us hl => match us, hl with | [_, _], _ => rfl
theorem ok_d21 : DtOk tbH d21 := ⟨⟨rfl, rfl, rfl, by decide +kernel, rfl, by decide +kernel, by decide +kernel⟩, rfl, rfl, by kernel_rfl⟩
theorem bn_d21 : BndOk d21 := fun _ _ _ _ _ _ us hl => match us, hl with | [_], _ => rfl
theorem ok_d22 : DtOk tbH d22 := ⟨⟨rfl, rfl, rfl, by decide +kernel, rfl, by decide +kernel, by decide +kernel⟩, rfl, rfl, by kernel_rfl⟩
theorem bn_d22 : BndOk d22 := fun _ _ _ _ _ _ us hl => match us, hl with | [_, _, _], _ => rfl
theorem ok_d23 : DtOk tbH d23 := ⟨⟨rfl, rfl, rfl, by decide +kernel, rfl, by decide +kernel, by decide +kernel⟩, rfl, rfl, by kernel_rfl⟩
theorem bn_d23 : BndOk d23 := fun _ _ _ _ _ _ us hl => match us, hl with | [_, _], _ => rfl
theorem ok_d24 : DtOk tbH d24 := ⟨⟨rfl, rfl, rfl, by decide +kernel, rfl, by decide +kernel, by decide +kernel⟩, rfl, rfl, by kernel_rfl⟩
theorem bn_d24 : BndOk d24 := fun _ _ _ _ _ _ us hl => match us, hl with | [_, _], _ => rfl
theorem ok_d25 : DtOk tbH d25 := ⟨⟨rfl, rfl, rfl, by decide +kernel, rfl, by decide +kernel, by decide +kernel⟩, rfl, rfl, by kernel_rfl⟩
theorem bn_d25 : BndOk d25 := fun _ _ _ _ _ _ us hl => match us, hl with | [_, _, _], _ => rfl
theorem ok_d26 : DtOk tbH d26 := ⟨⟨rfl, rfl, rfl, by decide +kernel, rfl, by decide +kernel, by decide +kernel⟩, rfl, rfl, by kernel_rfl⟩
theorem bn_d26 : BndOk d26 := fun _ _ _ _ _ _ us hl => match us, hl with | [_], _ => rfl
theorem ok_all : allD (DtOk tbH) dts := ⟨ok_d0, ok_d1, ok_d2, ok_d3, ok_d4, ok_d5, ok_d6, ok_d7, ok_d8, ok_d9, ok_d10, ok_d11, ok_d12, ok_d13, ok_d14, ok_d15, ok_d16, ok_d17, ok_d18, ok_d19, ok_d20, ok_d21, ok_d22, ok_d23, ok_d24, ok_d25, ok_d26, trivial⟩
theorem bn_all : allD BndOk dts := ⟨bn_d0, bn_d1, bn_d2, bn_d3, bn_d4, bn_d5, bn_d6, bn_d7, bn_d8, bn_d9, bn_d10, bn_d11, bn_d12, bn_d13, bn_d14, bn_d15, bn_d16, bn_d17, bn_d18, bn_d19, bn_d20, bn_d21, bn_d22, bn_d23, bn_d24, bn_d25, bn_d26, trivial⟩
end T92
end

section
set_option maxRecDepth 100000
set_option maxHeartbeats 0
namespace T92
open PySem PySem.Spec PyProof.Rows L2 Pe
/-! the head's run -/
def toDef (d : Dt) : He.DefD := ⟨(d.x, none), d.x, d.x, d.params, d.body, d.scope, [], []⟩
def fnL : List He.DefD := dts.map toDef
def faL : List He.Fa := dts.map (fun d => He.Fa.glo d.x) ++ (blts.map He.Fa.free ++ [He.Fa.glo "ONE", He.Fa.glo "LESS"])
def notList (o : Obj) : Bool := match o.cls with
  | .type c => !decide (c = "list")
  | _ => true
def noList (K : PySem.W.Frag) : Bool := K.all fun q => notList q.2
def exL (K : PySem.W.Frag) : Bool := He.tupB K "ONE" [.int 1] && (He.tupB K "LESS" [.int (-1)] && noList K)
abbrev R : PySem.W.OpenRow := PySem.W.OpenLaw.row PySem.Challenge.rw_planestacks_k92_whole_ties_of_products
abbrev hk : PySem.W.Hook := He.hookX 4 faL fnL [] [] exL
def ob (s : PySem.W.SharedT) : He.AlX := He.obsX 4 faL fnL [] [] exL (HandSHeadRun.getT s)
theorem ob_eq (s : PySem.W.SharedT) : ob s = hk.obs s.abs := He.obsX_eq (HandSHeadRun.getT_eq s)
def loose : List Str := ["trimmed", "part_at", "row_plus", "row_times", "cut_off", "board_times", "ONE", "LESS", "line_of", "table_of", "turned_sign", "with_line", "determinant", "tie_of", "_law_cell", "_law_numbers", "_law_trim", "_law_board_of", "_law_product", "_law_line", "_law_conic", "_law_board", "_law_small_row", "_law_drawn", "_law_put", "_law_often", "_law_times_number", "_law_turned_right"]
theorem run (w : World) : HandSHeadRun.RunEq R (PySem.W.view R.prog [32]) hk ob 4000 loose w := by
  intro os
  kernel_rfl
end T92
end

section
set_option maxRecDepth 100000
set_option maxHeartbeats 0
namespace T92
open PySem PySem.Spec PyProof.Rows L2 Pe
/-! ### no list stands in K -/
theorem noList_ok {K : PySem.W.Frag} (h : noList K = true) {a : Addr} {o : Obj} (e : K.lookup a = some o) (hc : o.cls = .type "list") : False := by
  have h1 := List.all_eq_true.mp h (a, o) (He.lookup_mem e)
  have h2 : notList o = true := h1
  unfold notList at h2
  rw [hc] at h2
  cases h2
/-- a law's end; what a call lets out may depend on the world -/
theorem walk_ofW {l : PySem.W.OpenLaw} {n k : Nat} {q : Program} {loose : List Str} {XP : (Str → Option Value) → Heap → Prop} {YP : World → Heap → Prop} {d : DefRec} {x : Str}
    (hn : l.most = some n) (hn2 : n ≤ sizeLine) (hdf : d.params.defaults = []) (hr : Room k callerA)
    (F : ∀ (w : World) (mg : Str → Option Value) (fa : Addr) (h : Heap), YP w h → h.Ns mainGlobals mg → mg d.name = some (.ref fa) →
      ∃ (K : PySem.W.Frag) (fd : FuncData) (sp : Sp), K.In h ∧ (∀ (s : Shared) (u : Value), BindsTo s fd ⟨[u], []⟩ [(x, u)]) ∧
        (∀ (H : Hp) (a : Addr) (ns : List Int), ns.length ≤ n → Only H → SqL K H a (ns.map V.int) → sp [.ref a] H (fun v _ => v = .bl true) fun _ _ _ => False) ∧
        ∀ base : Heap, K.In base → base.Ns mainGlobals mg → FnOk l.prog w K mg base (L2.CX l.prog w) k fa fd [x] sp) :
    PySem.W.WalkO q loose XP YP l.row.toRowW d [] (fun f vs => PySem.call f vs) := by
  refine Att.attach_call hn hdf fun w s₀ s₁ mg mb fa o pm cd doc a vs ns G Y ho hd hcd hmg hobj hints hlen hg => ?_
  obtain ⟨K, fd, sp, KX, hb, hsp, hF⟩ := F w mg fa _ Y G.T.g hmg
  exact law_call KX G.T.g G.T.b G.T.builtins G.T.nolimit hg hobj hints (Nat.le_trans hlen hn2) hr hF hb (fun H hO hS => hsp H a ns hlen hO hS) fun H e s' c => cx_no c
theorem rep_ints (K : KW) (F : Hp) : ∀ ns : List Int, RepL K F (ns.map V.int) (ns.map (.int : Int → T92.D))
  | [] => .nil
  | n :: ns => .cons (.int n) (rep_ints K F ns)
theorem facts {P : Program} {w : World} {K : PySem.W.Frag} {h : Heap} {mg : Str → Option Value} {f : Addr} (X : K.In h) (G : h.Ns mainGlobals mg) (hfa : mg ("law" : Str) = some (.ref f)) (c : He.SaysX faL fnL [] [] exL w h K) :
    ∃ fd : FuncData, (∀ (s : Shared) (v : Value), BindsTo s fd ⟨[v], []⟩ [("_law_script", v)]) ∧ ∀ base : Heap, FnOk P w K mg base (L2.CX P w) 8 f fd ["_law_script"] (spP (K, w) (fun _ => 0) 1 (Calls Gc tb.T noM 8 26)) := by
  have hex : exL K = true := c.more
  obtain ⟨t1, hex2⟩ := He.ba (show (He.tupB K "ONE" [.int 1] && (He.tupB K "LESS" [.int (-1)] && noList K)) = true from hex)
  obtain ⟨t2, hno⟩ := He.ba hex2
  have glo : ∀ x, He.Fa.glo x ∈ faL → mg x = some (.ref (He.ga K x)) := fun x hx => He.glo_ok X G (c.t.d.facts hx)
  have W : ∀ base : Heap, World1 P w K mg base tbH Gc (fun _ => 0) := fun base => {
    dt := fun f d e => allD_get ok_all (show dts[f]? = some d from e)
    fn := fun f d e => by
      have hd : d ∈ dts := List.mem_of_getElem? (show dts[f]? = some d from e)
      obtain ⟨fd, F⟩ := c.t.d.defs (d := toDef d) (List.mem_map_of_mem hd)
      exact ⟨_, fd, F, glo d.x (List.mem_append_left _ (List.mem_map_of_mem (f := fun d => He.Fa.glo d.x) hd)), F.bindsN (allD_get bn_all (show dts[f]? = some d from e))⟩
    gl := fun n x e => by
      match n, e with
      | 0, e =>
        cases e
        refine ⟨_, .ref (He.ga K "ONE"), glo "ONE" (by simp [faL]), rfl, fun F => .tup (He.tupB_ok t1 F) (.cons (.int 1) .nil)⟩
      | 1, e =>
        cases e
        refine ⟨_, .ref (He.ga K "LESS"), glo "LESS" (by simp [faL]), rfl, fun F => .tup (He.tupB_ok t2 F) (.cons (.int (-1)) .nil)⟩
      | n + 2, e => cases e
    bl := fun x e => He.free_ok X G (c.t.d.facts (List.mem_append_right _ (List.mem_append_left _ (List.mem_map_of_mem (List.contains_iff_mem.mp (show blts.contains x = true from e))))))
    exc := fun n x e => by cases e }
  have hl : He.Fa.glo "law" ∈ faL := List.mem_append_left _ (List.mem_map_of_mem (f := fun d => He.Fa.glo d.x) (a := d26) (by unfold dts; simp))
  have hd : d26 ∈ dts := by unfold dts; simp
  obtain ⟨fd, F⟩ := c.t.d.defs (d := toDef d26) (List.mem_map_of_mem hd)
  have e := hfa.symm.trans (glo "law" hl)
  cases e
  have b := FunD.bindsA (ps := ["_law_script"]) F bn_d26
  exact ⟨fd, fun s v => b s [v] rfl, fun base => table1 (W base) 7 26 d26 rfl F⟩
end T92
open PySem PySem.W PySem.Calls PyProof.Rows
theorem PySem.Challenge.cw_planestacks_k92_whole_ties_of_products_holds : PySem.Challenge.rw_planestacks_k92_whole_ties_of_products.Holds := by
  w_on; o_law
  refine HandSHeadRun.head_any (r := OpenLaw.row PySem.Challenge.rw_planestacks_k92_whole_ties_of_products) (q := view (OpenLaw.row PySem.Challenge.rw_planestacks_k92_whole_ties_of_products).prog [32]) (H := T92.hk) (ob := T92.ob) (M := 4000) (loose := T92.loose) (d := HandSHeadRun.topDef (OpenLaw.row PySem.Challenge.rw_planestacks_k92_whole_ties_of_products).prog 32) (kwd := []) T92.ob_eq
    (by kernel_rfl) (fun s => by kernel_rfl) T92.run (by kernel_rfl) (by kernel_rfl) (by kernel_rfl) (by rfl) (by first | assumption | decide +kernel) (by decide +kernel) ⟨rfl, rfl, rfl, rfl, rfl, by decide +kernel⟩ ?hw ?hc
  case hw => w_witness2
  case hc =>
    refine T92.walk_ofW (l := PySem.Challenge.rw_planestacks_k92_whole_ties_of_products) (n := 63) (k := 8) (x := "_law_script") rfl (by decide) (by kernel_rfl) ⟨rfl, by decide, by decide⟩ ?F
    intro w mg fa h Y G hmg0
    obtain ⟨K, KX, c⟩ := Y
    have hmg : mg ("law" : PySem.Str) = some (.ref fa) := by
      have e : (HandSHeadRun.topDef (OpenLaw.row PySem.Challenge.rw_planestacks_k92_whole_ties_of_products).prog 32).name = ("law" : PySem.Str) := by kernel_rfl
      rw [← e]
      exact hmg0
    obtain ⟨fd, hb, hF⟩ := T92.facts (P := (PySem.Challenge.rw_planestacks_k92_whole_ties_of_products).prog) (w := w) KX G hmg c
    refine ⟨K, fd, _, KX, hb, fun H a ns hl _ hS => ?_, fun base _ _ => hF base⟩
    rcases hS with hS | ⟨o, _, _, hk, hc, _⟩
    · refine ⟨rfl, fun b => if b = a then H a else none, [.list (ns.map (.int : Int → T92.D))], .val (.bool true), fun b o e => ?_, .cons (.lst ?_ (T92.rep_ints _ _ ns)) .nil, T92.f_law ns 8 (Nat.le_refl 8), fun F' H' v _ r => ?_⟩
      · by_cases q : b = a
        · subst q
          replace e : (if b = b then H b else none) = some o := e
          rw [if_pos rfl] at e
          exact ⟨o, e, .inl rfl⟩
        · exact absurd ((if_neg q).symm.trans e) (fun z => by cases z)
      · rcases hS with hS | ⟨o, hS⟩
        · exact .inl ((if_pos rfl).trans hS)
        · exact .inr ⟨o, (if_pos rfl).trans hS⟩
      · cases r
        rfl
    · exact (T92.noList_ok (He.ba (He.ba c.more).2).2 hk hc).elim
end
