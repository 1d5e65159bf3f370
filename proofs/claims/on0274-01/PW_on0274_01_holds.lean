import PyProof.Rows.All
import Wide.All
import OpenK.AllK
import Wide.FinOn
import PySem.Challenge.RW_on0274_01
open PySem PySem.W PyProof.Rows PySem.Calls
set_option Elab.async false
set_option linter.unusedVariables false
namespace Mine
section
variable {prog : Program} {w : World}

/-- the deck, written out: a dict of a list and an int -/
noncomputable def deckOf (hc ha : Int) (tc ta : Tok) (c : Addr) (a : Int) (t : Tok) (ep : Nat) : Obj :=
  dictOf [⟨hc, .str (Str.ofString "cells") tc, .ref c⟩, ⟨ha, .str (Str.ofString "at") ta, .int a t⟩] ep

theorem deck_in {hc ha : Int} {tc ta : Tok} {c : Addr} {a : Int} {t : Tok} {ep : Nat} (e1 : hc = hashStr w (Str.ofString "cells")) (e2 : ha = hashStr w (Str.ofString "at")) :
    (dictOf [⟨hc, .str (Str.ofString "cells") tc, .ref c⟩, ⟨ha, .str (Str.ofString "at") ta, .int a t⟩] ep).IsDictOf (strKind prog w) [(Str.ofString "cells", .ref c), (Str.ofString "at", .int a t)] := by
  refine ⟨_, ep, ⟨rfl, rfl, rfl⟩, rfl, ?_, ?_, ?_⟩
  · intro e he
    simp at he
    rcases he with rfl | rfl
    · exact ⟨_, strKind_is _ _ _ _, e1⟩
    · exact ⟨_, strKind_is _ _ _ _, e2⟩
  · exact .cons (strKind_is _ _ _ _) rfl (.cons (strKind_is _ _ _ _) rfl .nil)
  · show ([Str.ofString "cells", Str.ofString "at"] : List Str).Nodup
    decide +kernel

theorem deck_out {o : Obj} {c : Addr} {a : Int} {t : Tok} (h : o.IsDictOf (strKind prog w) [(Str.ofString "cells", .ref c), (Str.ofString "at", .int a t)]) :
    ∃ tc ta ep, o = dictOf [⟨hashStr w (Str.ofString "cells"), .str (Str.ofString "cells") tc, .ref c⟩, ⟨hashStr w (Str.ofString "at"), .str (Str.ofString "at") ta, .int a t⟩] ep := by
  obtain ⟨es, ep, ⟨h1, h2, h3⟩, hd, hk, hp, _⟩ := h
  obtain ⟨l⟩ := es
  cases hp with
  | @cons e1 _ r1 _ k1 v1 hp =>
    cases hp with
    | @cons e2 _ r2 _ k2 v2 hp =>
      cases hp
      obtain ⟨hh1, ky1, vl1⟩ := e1
      obtain ⟨hh2, ky2, vl2⟩ := e2
      obtain ⟨t1, rfl⟩ := Value.isStrOf_shape k1
      obtain ⟨t2, rfl⟩ := Value.isStrOf_shape k2
      subst v1; subst v2
      have g1 := hk _ (show (⟨hh1, .str (Str.ofString "cells") t1, .ref c⟩ : DictEntry) ∈ _ from by simp)
      have g2 := hk _ (show (⟨hh2, .str (Str.ofString "at") t2, .int a t⟩ : DictEntry) ∈ _ from by simp)
      obtain ⟨x1, y1, z1⟩ := g1
      obtain ⟨x2, y2, z2⟩ := g2
      have q1 := Value.isStrOf_shape (show Value.isStrOf x1 (.str (Str.ofString "cells") t1) = true from y1)
      have q2 := Value.isStrOf_shape (show Value.isStrOf x2 (.str (Str.ofString "at") t2) = true from y2)
      obtain ⟨_, q1⟩ := q1
      obtain ⟨_, q2⟩ := q2
      injection q1 with q1 _
      injection q2 with q2 _
      subst q1; subst q2
      refine ⟨t1, t2, ep, ?_⟩
      obtain ⟨oc, od, odt, os⟩ := o
      simp only at h1 h2 h3 hd z1 z2
      subst h1; subst h2; subst h3; subst hd; subst z1; subst z2
      rfl
end

/-- the deck with another int under 'at' -/
noncomputable def putAt (o : Obj) (v : Value) : Obj := Obj.mapDict (fun es => es.modify 1 fun e => { e with val := v }) o

theorem putAt_eq (hc ha : Int) (kc ka : Value) (vc va v : Value) (ep : Nat) : putAt (dictOf [⟨hc, kc, vc⟩, ⟨ha, ka, va⟩] ep) v = dictOf [⟨hc, kc, vc⟩, ⟨ha, ka, v⟩] ep := rfl

section
variable {prog : Program} {w : World} {A : Around} {E : Value → Shared → Prop} {s : Shared} {h₀ : Heap} {L d cl : Addr} {m : Str → Option Value} {news : List (Addr × Obj)} {G : Obj → List (Addr × Obj)} {o : Obj} {a b : Int} {t u : Tok}

theorem putAt_in (hd : o.IsDictOf (PySem.strKind prog w) [(Str.ofString "cells", .ref cl), (Str.ofString "at", .int a t)]) : (putAt o (.int b u)).IsDictOf (PySem.strKind prog w) [(Str.ofString "cells", .ref cl), (Str.ofString "at", .int b u)] := by
  obtain ⟨tc, ta, ep, rfl⟩ := deck_out hd
  rw [putAt_eq]
  exact deck_in rfl rfl

theorem deck_set {x : Tok} {Q : Unit → Shared → Prop} (F : Fr h₀ L s.heap m) (N : News h₀ L s.heap news) (U : UpdF d o news G)
    (hd : o.IsDictOf (PySem.strKind prog w) [(Str.ofString "cells", .ref cl), (Str.ofString "at", .int a t)])
    (h : ∀ h' o', Fr h₀ L h' m → News h₀ L h' (G o') → o'.IsDictOf (PySem.strKind prog w) [(Str.ofString "cells", .ref cl), (Str.ofString "at", .int b u)] → o' = putAt o (.int b u) → Q () { s with heap := h', toks := s.toks + 1 }) :
    wpAny (model prog w) A (setItem (.ref d) (.str (Str.ofString "at") x) (.int b u)) Q E s := by
  have hq := putAt_in (b := b) (u := u) hd
  obtain ⟨pre, post, rfl, hg, ha, hb⟩ := U.split
  have hm := N (d, o) (List.mem_append_right _ (.head _))
  have hD : s.heap.DictOf (PySem.strKind prog w) d _ := Heap.dictOf_iff.mpr ⟨o, hm.1, hd⟩
  obtain ⟨tc, ta, ep, rfl⟩ := deck_out hd
  rw [putAt_eq] at h hq
  have hk := strKind_is prog w (Str.ofString "at") x
  unfold setItem
  try with_reducible refine wpAny_holding ?_
  refine wpAny_bind (wpAny_sequenceKey hD.typeIs (by decide) ?_)
  refine wpAny_bind (wpAny_callSpecial?_slot (name := Str.ofString "__setitem__") hD.typeIs slot_dict_setitem
    (wpAny_call_entry slot_dict_setitem hD.typeIs entry_dict_setitem ?_ (args_dict_setitem _ _ _)))
  show wpAny _ _ (Builtin.Dict.notOrdered "__setitem__" ⟨[.ref d, .str (Str.ofString "at") x, .int b u], []⟩ >>= _) _ _ s
  refine wpAny_bind (wpAny_notOrdered_dict hD.typeIs ?_)
  show wpAny _ _ (dictSet d (.str (Str.ofString "at") x) (.int b u) >>= _) _ _ s
  refine wpAny_bind ?_
  unfold dictSet
  try with_reducible refine wpAny_holding ?_
  refine wpAny_bind ((PySem.strKind prog w).pyHash hk ?_)
  unfold dictSetHashed
  try with_reducible refine wpAny_holding ?_
  obtain ⟨es, ep', hc', hd', hk', _, _⟩ := hd
  refine wpAny_bind (wpAny_dictFind_of (s := { s with toks := s.toks + 1 }) hk hm.1 hd' hk' ?_)
  have he : es = #[⟨hashStr w (Str.ofString "cells"), .str (Str.ofString "cells") tc, .ref cl⟩, ⟨hashStr w (Str.ofString "at"), .str (Str.ofString "at") ta, .int a t⟩] := by
    injection hd' with e1 _
    exact e1.symm
  subst he
  have hi : ((#[⟨hashStr w (Str.ofString "cells"), .str (Str.ofString "cells") tc, .ref cl⟩, ⟨hashStr w (Str.ofString "at"), .str (Str.ofString "at") ta, .int a t⟩] : Array DictEntry).findIdx? fun e => (PySem.strKind prog w).is (Str.ofString "at") e.key) = some 1 := by
    have e1 : (PySem.strKind prog w).is (Str.ofString "at") (.str (Str.ofString "cells") tc) = false := by
      show Value.isStrOf (Str.ofString "at") (.str (Str.ofString "cells") tc) = false
      rfl
    have e2 : (PySem.strKind prog w).is (Str.ofString "at") (.str (Str.ofString "at") ta) = true := strKind_is _ _ _ _
    simp [List.findIdx?_cons, e1, e2]
  rw [hi]
  refine wpAny_bind (wpAny_rule (wpAny_bind (wpAny_updateDict (s := { s with toks := s.toks + 1 }) hm.1 hd' (wpAny_point ?_))))
  refine wpAny_pure ⟨.none, rfl, wpAny_pure ?_⟩
  have hs : Heap.SameBut d s.heap (s.heap.update d (Obj.mapDict (fun es => es.modify 1 fun e => { e with val := .int b u }))) := Heap.SameBut.update ..
  have ho := Heap.get?_update_self (Obj.mapDict (fun es => es.modify 1 fun e => { e with val := .int b u })) hm.1 rfl
  refine h _ _ (F.change hs hm.2.1 hm.2.2) (hg _ ▸ N.setIn ha hb hs ho) ?_ rfl
  exact hq
end

structure DrawMark : Prop where
  mark :: (one : True)

/-- what a draw leaves: an int in 0 .. below, the deck one further, all else as it stood -/
def DrawEnd (h₀ : Heap) (L : Addr) (m : Str → Option Value) (G : Obj → List (Addr × Obj)) (o : Obj) (a' below : Int) (s : Shared) (v : Value) (s₂ : Shared) : Prop :=
  ∃ (r : Int) (tr : Tok) (h : Heap) (tk : Nat) (t : Tok), v = .int r tr ∧ 0 ≤ r ∧ r < below ∧ s₂ = { s with heap := h, toks := tk } ∧ Fr h₀ L h m ∧ News h₀ L h (G (putAt o (.int a' t)))

theorem no_empty {l : List Int} (h : decide (l = []) = false) (h' : (l.length : Int) = 0) : False := by
  have e : l = [] := List.eq_nil_of_length_eq_zero (by omega)
  rw [e] at h
  cases h

theorem no_empty' {l : List Int} (h : ¬ l = []) (h' : (l.length : Int) = 0) : False :=
  h (List.eq_nil_of_length_eq_zero (by omega))

section
variable {prog : Program} {w : World} {h₀ h : Heap} {L cl d : Addr} {m : Str → Option Value} {G : Obj → List (Addr × Obj)} {news news' : List (Addr × Obj)} {a a' below r : Int} {s s₂ : Shared} {v : Value} {t tr : Tok} {tk : Nat} {o : Obj}

theorem item_mod {A : Around} {E : Value → Shared → Prop} {value slice : PySem.Expr} {l : Addr} {vs : List Value} {ns : List Int} {k : Int} {u : Tok} {Q : Value → Shared → Prop} (hl : s.heap.IsList l vs.toArray) (hi : IntsAre vs ns)
    (hne : decide (ns = []) = false) (hb : ns.length ≤ 63) (h : ∀ x t, Q (.int x t) s)
    (hs : subscripted slice false (.ref l) (.int (Int.fmod k (ns.length : Int)) u) = operate [.ref l, .int (Int.fmod k (ns.length : Int)) u] (getItem (.ref l) (.int (Int.fmod k (ns.length : Int)) u)) := by with_unfolding_all rfl) :
    wpAny (model prog w) A (subscriptTail value slice (.ref l) (.int (Int.fmod k (ns.length : Int)) u)) Q E s := by
  have hp : 0 < (ns.length : Int) := by
    cases ns with
    | nil => cases hne
    | cons _ _ => simp only [List.length_cons]; omega
  have h0 := fmod_lo k hp
  have h1 := fmod_hi k hp
  exact item_anyK hl hi h0 h1 (by omega) (fun t => h _ t) hs

theorem DrawEnd.intro {o' : Obj} (he : o' = putAt o (.int a' t)) (hv : v = .int r tr) (hs : s₂ = { s with heap := h, toks := tk })
    (h0 : 0 ≤ r) (h1 : r < below) (F : Fr h₀ L h m) (N : News h₀ L h news') (hn : ∀ p ∈ G o', p ∈ news') : DrawEnd h₀ L m G o a' below s v s₂ := by
  subst he
  exact ⟨r, tr, h, tk, t, hv, h0, h1, hs, F, fun p hp => N p (hn p hp)⟩

/-- a draw from a deck that is known as a dict: it is written out behind it -/
theorem draw_call {A : Around} {E : Value → Shared → Prop} {Q : Value → Shared → Prop} {env : Env} {e₁ : PySem.Expr} {p₁ p₂ p₃ : Pos} {n : Nat}
    (F : Fr h₀ L s.heap m) (N : News h₀ L s.heap news) (uhm : m (Str.ofString "deck") = some (.ref d)) (U : UpdF d o news G)
    (hd : o.IsDictOf (PySem.strKind prog w) [(Str.ofString "cells", .ref cl), (Str.ofString "at", .int a t)])
    (hc : DrawMark → ∀ o₁ : Obj, o₁.IsDictOf (PySem.strKind prog w) [(Str.ofString "cells", .ref cl), (Str.ofString "at", .int a t)] → Fr h₀ L s.heap m → News h₀ L s.heap (G o₁) →
      wpAny (model prog w) A (eval (Expr.Call (Expr.Name (Str.ofString "_law_draw") p₁) [e₁, Expr.Constant (Const.int below) n p₂] [] p₃) env) (fun v s₂ => DrawEnd h₀ L m G o₁ (a + 1) below s v s₂) E s)
    (hk : ∀ (r : Int) (tr tc ta t' : Tok) (ep : Nat) (h : Heap) (tk : Nat), 0 ≤ r → r < below → Fr h₀ L h m →
      News h₀ L h (G (dictOf [⟨hashStr w (Str.ofString "cells"), .str (Str.ofString "cells") tc, .ref cl⟩, ⟨hashStr w (Str.ofString "at"), .str (Str.ofString "at") ta, .int (a + 1) t'⟩] ep)) →
      Q (.int r tr) { s with heap := h, toks := tk }) :
    wpAny (model prog w) A (eval (Expr.Call (Expr.Name (Str.ofString "_law_draw") p₁) [e₁, Expr.Constant (Const.int below) n p₂] [] p₃) env) Q E s := by
  have hg : G o = news := by
    obtain ⟨pre, post, rfl, hg, _, _⟩ := U.split
    exact hg o
  refine wpAny_mono (hc ⟨trivial⟩ o hd F (by rw [hg]; exact N)) (fun v s₂ hq => ?_) fun _ _ h => h
  obtain ⟨r, tr, h, tk, t', rfl, h0, h1, rfl, F', N'⟩ := hq
  obtain ⟨tc, ta, ep, rfl⟩ := deck_out hd
  rw [putAt_eq] at N'
  exact hk r tr tc ta t' ep h tk h0 h1 F' N'

/-- a draw from a written deck: its keys, its hashes stay -/
theorem draw_again {A : Around} {E : Value → Shared → Prop} {Q : Value → Shared → Prop} {env : Env} {e₁ : PySem.Expr} {p₁ p₂ p₃ : Pos} {n ep : Nat} {tc ta : Tok}
    (F : Fr h₀ L s.heap m) (N : News h₀ L s.heap news) (uhm : m (Str.ofString "deck") = some (.ref d))
    (U : UpdF d (dictOf [⟨hashStr w (Str.ofString "cells"), .str (Str.ofString "cells") tc, .ref cl⟩, ⟨hashStr w (Str.ofString "at"), .str (Str.ofString "at") ta, .int a t⟩] ep) news G)
    (hc : DrawMark → ∀ o₁ : Obj, o₁.IsDictOf (PySem.strKind prog w) [(Str.ofString "cells", .ref cl), (Str.ofString "at", .int a t)] → Fr h₀ L s.heap m → News h₀ L s.heap (G o₁) →
      wpAny (model prog w) A (eval (Expr.Call (Expr.Name (Str.ofString "_law_draw") p₁) [e₁, Expr.Constant (Const.int below) n p₂] [] p₃) env) (fun v s₂ => DrawEnd h₀ L m G o₁ (a + 1) below s v s₂) E s)
    (hk : ∀ (r : Int) (tr t' : Tok) (h : Heap) (tk : Nat), 0 ≤ r → r < below → Fr h₀ L h m →
      News h₀ L h (G (dictOf [⟨hashStr w (Str.ofString "cells"), .str (Str.ofString "cells") tc, .ref cl⟩, ⟨hashStr w (Str.ofString "at"), .str (Str.ofString "at") ta, .int (a + 1) t'⟩] ep)) →
      Q (.int r tr) { s with heap := h, toks := tk }) :
    wpAny (model prog w) A (eval (Expr.Call (Expr.Name (Str.ofString "_law_draw") p₁) [e₁, Expr.Constant (Const.int below) n p₂] [] p₃) env) Q E s := by
  have hg : G (dictOf [⟨hashStr w (Str.ofString "cells"), .str (Str.ofString "cells") tc, .ref cl⟩, ⟨hashStr w (Str.ofString "at"), .str (Str.ofString "at") ta, .int a t⟩] ep) = news := by
    obtain ⟨pre, post, rfl, hg, _, _⟩ := U.split
    exact hg _
  refine wpAny_mono (hc ⟨trivial⟩ _ (deck_in rfl rfl) F (by rw [hg]; exact N)) (fun v s₂ hq => ?_) fun _ _ h => h
  obtain ⟨r, tr, h, tk, t', rfl, h0, h1, rfl, F', N'⟩ := hq
  rw [putAt_eq] at N'
  exact hk r tr t' h tk h0 h1 F' N'
end

/-! plain: the seed, one step -/
noncomputable def sd (x : Int) : Int := if Int.fmod x 2147483647 = 0 then 1 else Int.fmod x 2147483647
def NextOf (x : Int) : Prop := ∃ z : Int, z = x
noncomputable def nx (x : Int) : Int := Int.fmod (x * 16807) 2147483647

theorem fm (x : Int) : Int.fmod x 2147483647 = x % 2147483647 := Int.fmod_eq_emod_of_nonneg x (by decide)

theorem sd_lo (x : Int) : 0 < sd x := by unfold sd; rw [fm]; split <;> omega
theorem sd_hi (x : Int) : sd x < 2147483647 := by unfold sd; rw [fm]; split <;> omega
theorem sd_id {x : Int} (h0 : 0 < x) (h1 : x < 2147483647) : sd x = x := by unfold sd; rw [fm]; split <;> omega
theorem sd_ne {x : Int} (h : ¬ Int.fmod x 2147483647 = 0) : Int.fmod x 2147483647 = sd x := (if_neg h).symm
theorem sd_eq {x : Int} (h : Int.fmod x 2147483647 = 0) : 1 = sd x := (if_pos h).symm
theorem seven_ne {q x : Int} (h0 : 0 < x) (h1 : x < 2147483647) (e : 2147483647 * q = x * 7) : False := by
  have hq : q = 7 * (x - 306783378 * q) := by
    rw [Int.mul_sub, ← Int.mul_assoc, Int.mul_comm 7 x, ← e, ← Int.sub_mul]
    exact (Int.one_mul q).symm
  generalize x - 306783378 * q = k at hq
  rw [hq, ← Int.mul_assoc, Int.mul_comm 2147483647 7, Int.mul_assoc, Int.mul_comm x 7] at e
  have hx : 2147483647 * k = x := Int.eq_of_mul_eq_mul_left (by decide) e
  omega
theorem seven_lo {x : Int} (h0 : 0 < x) (h1 : x < 2147483647) : 0 < Int.fmod (x * 7) 2147483647 := by
  rw [fm]
  have e := Int.mul_ediv_add_emod (x * 7) 2147483647
  have g0 := Int.emod_nonneg (x * 7) (show (2147483647 : Int) ≠ 0 by decide)
  generalize (x * 7) % 2147483647 = r at e g0 ⊢
  by_cases hr : r = 0
  · exfalso
    rw [hr, Int.add_zero] at e
    exact seven_ne h0 h1 e
  · clear e
    omega
theorem seven_hi (x : Int) : Int.fmod (x * 7) 2147483647 < 2147483647 := by
  rw [fm]
  exact Int.emod_lt_of_pos _ (by decide)
theorem seven_mul (x k : Int) : Int.fmod (Int.fmod (x * k) 2147483647 * 7) 2147483647 = Int.fmod (x * (k * 7)) 2147483647 := by
  rw [fm, fm, fm, Int.mul_emod, Int.emod_emod, ← Int.mul_emod, Int.mul_assoc]
theorem nx5 (x : Int) : Int.fmod (Int.fmod (Int.fmod (Int.fmod (Int.fmod (x * 7) 2147483647 * 7) 2147483647 * 7) 2147483647 * 7) 2147483647 * 7) 2147483647 = nx x := by
  rw [seven_mul x 7, seven_mul x (7 * 7), seven_mul x (7 * 7 * 7), seven_mul x (7 * 7 * 7 * 7)]; rfl
theorem nx_hi (x : Int) : nx x < 2147483647 := by
  unfold nx
  rw [fm]
  exact Int.emod_lt_of_pos _ (by decide)
theorem nx_lo {x : Int} (h0 : 0 < x) (h1 : x < 2147483647) : 0 < nx x := by
  rw [← nx5]
  have a1 := seven_lo h0 h1
  have b1 := seven_hi x
  have a2 := seven_lo a1 b1
  have b2 := seven_hi (Int.fmod (x * 7) 2147483647)
  have a3 := seven_lo a2 b2
  have b3 := seven_hi (Int.fmod (Int.fmod (x * 7) 2147483647 * 7) 2147483647)
  have a4 := seven_lo a3 b3
  have b4 := seven_hi (Int.fmod (Int.fmod (Int.fmod (x * 7) 2147483647 * 7) 2147483647 * 7) 2147483647)
  exact seven_lo a4 b4

/-! a call that gives an int back and leaves all as it stood -/
def IntEnd (h₀ : Heap) (L : Addr) (m : Str → Option Value) (news : List (Addr × Obj)) (x : Int) (s : Shared) (v : Value) (s₂ : Shared) : Prop :=
  ∃ (t : Tok) (h : Heap) (tk : Nat), v = .int x t ∧ s₂ = { s with heap := h, toks := tk } ∧ Fr h₀ L h m ∧ News h₀ L h news
section
variable {prog : Program} {w : World} {h₀ h : Heap} {L d : Addr} {m : Str → Option Value} {G : Obj → List (Addr × Obj)} {news news' : List (Addr × Obj)} {x r : Int} {s s₂ : Shared} {v : Value} {t tr : Tok} {tk : Nat}

theorem IntEnd.intro (hv : v = .int r tr) (hs : s₂ = { s with heap := h, toks := tk }) (hr : r = x) (F : Fr h₀ L h m) (N : News h₀ L h news') (hn : ∀ p ∈ news, p ∈ news') : IntEnd h₀ L m news x s v s₂ := by
  subst hr
  exact ⟨tr, h, tk, hv, hs, F, fun p hp => N p (hn p hp)⟩

def SdEnd := @IntEnd
def NxEnd := @IntEnd
def FrEnd := @IntEnd
theorem SdEnd.intro (hv : v = .int r tr) (hs : s₂ = { s with heap := h, toks := tk }) (hr : r = sd x) (F : Fr h₀ L h m) (N : News h₀ L h news') (hn : ∀ p ∈ news, p ∈ news') : SdEnd h₀ L m news (sd x) s v s₂ := IntEnd.intro hv hs hr F N hn
theorem NxEnd.intro (hv : v = .int r tr) (hs : s₂ = { s with heap := h, toks := tk }) (hr : r = nx x) (F : Fr h₀ L h m) (N : News h₀ L h news') (hn : ∀ p ∈ news, p ∈ news') : NxEnd h₀ L m news (nx x) s v s₂ := IntEnd.intro hv hs hr F N hn
theorem FrEnd.intro (hv : v = .int r tr) (hs : s₂ = { s with heap := h, toks := tk }) (hr : r = x) (F : Fr h₀ L h m) (N : News h₀ L h news') (hn : ∀ p ∈ news, p ∈ news') : FrEnd h₀ L m news x s v s₂ := IntEnd.intro hv hs hr F N hn

theorem seeded_call {A : Around} {E : Value → Shared → Prop} {Q : Value → Shared → Prop} {env : Env} {y : Str} {p₁ p₂ p₃ : Pos}
    (uF : Fr h₀ L s.heap m) (uN : News h₀ L s.heap news) (uhm : m y = some (.int x t))
    (hc : DrawMark → wpAny (model prog w) A (eval (Expr.Call (Expr.Name (Str.ofString "_law_seeded") p₁) [Expr.Name y p₂] [] p₃) env) (fun v s₂ => SdEnd h₀ L m news (sd x) s v s₂) E s)
    (hk : ∀ (r : Int) (tr : Tok) (h : Heap) (tk : Nat), r = sd x → 0 < r → r < 2147483647 → Fr h₀ L h m → News h₀ L h news → Q (.int r tr) { s with heap := h, toks := tk }) :
    wpAny (model prog w) A (eval (Expr.Call (Expr.Name (Str.ofString "_law_seeded") p₁) [Expr.Name y p₂] [] p₃) env) Q E s := by
  refine wpAny_mono (hc ⟨trivial⟩) (fun v s₂ hq => ?_) fun _ _ h => h
  obtain ⟨tr, h, tk, rfl, rfl, F', N'⟩ := hq
  exact hk _ tr h tk rfl (sd_lo x) (sd_hi x) F' N'

theorem next_call {A : Around} {E : Value → Shared → Prop} {Q : Value → Shared → Prop} {env : Env} {y : Str} {p₁ p₂ p₃ : Pos}
    (uF : Fr h₀ L s.heap m) (uN : News h₀ L s.heap news) (uhm : m y = some (.int x t)) (h0 : 0 < x) (h1 : x < 2147483647)
    (hc : DrawMark → NextOf x → wpAny (model prog w) A (eval (Expr.Call (Expr.Name (Str.ofString "_law_next") p₁) [Expr.Name y p₂] [] p₃) env) (fun v s₂ => NxEnd h₀ L m news (nx x) s v s₂) E s)
    (hk : ∀ (r : Int) (tr : Tok) (h : Heap) (tk : Nat), r = nx x → 0 < r → r < 2147483647 → Fr h₀ L h m → News h₀ L h news → Q (.int r tr) { s with heap := h, toks := tk }) :
    wpAny (model prog w) A (eval (Expr.Call (Expr.Name (Str.ofString "_law_next") p₁) [Expr.Name y p₂] [] p₃) env) Q E s := by
  refine wpAny_mono (hc ⟨trivial⟩ ⟨x, rfl⟩) (fun v s₂ hq => ?_) fun _ _ h => h
  obtain ⟨tr, h, tk, rfl, rfl, F', N'⟩ := hq
  exact hk _ tr h tk rfl (nx_lo h0 h1) (nx_hi x) F' N'

/-! a seeding: one int of one object turns -/
def SeedEnd (h₀ : Heap) (L : Addr) (m : Str → Option Value) (G : Obj → List (Addr × Obj)) (hh : Int) (kk : Value) (n : Nat) (x : Int) (s : Shared) (f : Flow) (s₂ : Shared) : Prop :=
  f = .next ∧ ∃ (t : Tok) (h : Heap) (tk : Nat), s₂ = { s with heap := h, toks := tk } ∧ Fr h₀ L h m ∧ News h₀ L h (G (dictOf [⟨hh, kk, .int x t⟩] n))

theorem SeedEnd.intro {hh : Int} {kk : Value} {n : Nat} (hs : s₂ = { s with heap := h, toks := tk }) (F : Fr h₀ L h m) (N : News h₀ L h news') (hn : ∀ p ∈ G (dictOf [⟨hh, kk, .int r tr⟩] n), p ∈ news') (hr : r = x) : SeedEnd h₀ L m G hh kk n x s .next s₂ := by
  subst hr
  exact ⟨rfl, tr, h, tk, hs, F, fun p hp => N p (hn p hp)⟩

theorem seed_exec {A : Around} {E : Value → Shared → Prop} {Q : Flow → Shared → Prop} {env : Env} {y z : Str} {p₁ p₂ p₃ p₄ p₅ : Pos} {a C dx : Addr} {hh v₀ : Int} {kk : Value} {n : Nat} {t₀ : Tok}
    (uF : Fr h₀ L s.heap m) (uN : News h₀ L s.heap news) (uhm : m y = some (.ref a)) (uhz : m z = some (.int x t)) (uhi : (a, instObj C dx) ∈ news) (uU : UpdF dx (dictOf [⟨hh, kk, .int v₀ t₀⟩] n) news G)
    (hc : DrawMark → wpAny (model prog w) A (exec (Stmt.Expr (Expr.Call (Expr.Attribute (Expr.Name y p₁) (Str.ofString "seed") p₂) [Expr.Name z p₃] [] p₄) p₅) env) (fun v s₂ => SeedEnd h₀ L m G hh kk n (sd x) s v s₂) E s)
    (hk : ∀ (r : Int) (tr : Tok) (h : Heap) (tk : Nat), r = sd x → 0 < r → r < 2147483647 → Fr h₀ L h m → News h₀ L h (G (dictOf [⟨hh, kk, .int r tr⟩] n)) → Q .next { s with heap := h, toks := tk }) :
    wpAny (model prog w) A (exec (Stmt.Expr (Expr.Call (Expr.Attribute (Expr.Name y p₁) (Str.ofString "seed") p₂) [Expr.Name z p₃] [] p₄) p₅) env) Q E s := by
  refine wpAny_mono (hc ⟨trivial⟩) (fun v s₂ hq => ?_) fun _ _ h => h
  obtain ⟨rfl, tr, h, tk, rfl, F', N'⟩ := hq
  exact hk _ tr h tk rfl (sd_lo x) (sd_hi x) F' N'
end

/-! plain: many steps -/
noncomputable def it : Nat → Int → Int
  | 0, s => s
  | n + 1, s => nx (it n s)
def Same (a b : Int) : Prop := a = b
def Iter (n : Nat) (a b : Int) : Prop := b = it n a
theorem same_of {a b : Int} (h : Same a b) : a = b := h

theorem w1_start {rs st : Int} (h : rs = st) (h0 : 0 < st) (h1 : st < 2147483647) : Same rs st ∧ 0 < st ∧ st < 2147483647 ∧ Iter ([] : List Int).length st st :=
  ⟨h, h0, h1, rfl⟩
theorem w1_startX {X rs st : Int} (h : rs = sd X) (h' : st = sd X) (h0 : 0 < st) (h1 : st < 2147483647) : Same rs st ∧ 0 < st ∧ st < 2147483647 ∧ Iter ([] : List Int).length st st :=
  w1_start (h.trans h'.symm) h0 h1
theorem w1_turn {st₀ st rs' st' k : Int} {pre : List Int} (hi : Iter pre.length st₀ st) (e1 : st' = nx st) (e2 : rs' = nx st) (h0 : 0 < st') (h1 : st' < 2147483647) :
    Same rs' st' ∧ 0 < st' ∧ st' < 2147483647 ∧ Iter (pre ++ [k]).length st₀ st' := by
  refine ⟨e2.trans e1.symm, h0, h1, ?_⟩
  show st' = it (pre ++ [k]).length st₀
  rw [List.length_append, List.length_singleton, e1, show st = it pre.length st₀ from hi]
  rfl

theorem it_pow {s : Int} (h0 : 0 < s) (h1 : s < 2147483647) : ∀ n : Nat, it n s = s * 16807 ^ n % 2147483647
  | 0 => by
    rw [Int.pow_zero, Int.mul_one]
    exact (Int.emod_eq_of_lt (Int.le_of_lt h0) h1).symm
  | n + 1 => by
    show nx (it n s) = _
    rw [it_pow h0 h1 n, nx, fm, Int.mul_emod, Int.emod_emod, ← Int.mul_emod, Int.mul_assoc, Int.pow_succ]

/-- the word of the far one's while: what is found times the step to what is left -/
def Far (st m found step left : Int) : Prop := found * step ^ left.toNat % 2147483647 = st * 16807 ^ m.toNat % 2147483647

theorem far_start (st m : Int) : Far st m st 16807 m := rfl
theorem sq_mod (a s : Int) (k : Nat) : a * (Int.fmod (s * s) 2147483647) ^ k % 2147483647 = a * s ^ (2 * k) % 2147483647 := by
  rw [fm]
  have h : ∀ k : Nat, (s * s % 2147483647) ^ k % 2147483647 = s ^ (2 * k) % 2147483647 := by
    intro k
    induction k with
    | zero => rw [Nat.mul_zero, Int.pow_zero, Int.pow_zero]
    | succ k ih =>
      have e : 2 * (k + 1) = 2 * k + 1 + 1 := by omega
      rw [Int.pow_succ, Int.mul_emod, ih, Int.emod_emod, ← Int.mul_emod, e, Int.pow_succ, Int.pow_succ, Int.mul_assoc]
  rw [Int.mul_emod, h k, ← Int.mul_emod]
theorem far_even {st m found step left step' left' : Int} (h : Far st m found step left) (h0 : 0 < left) (e : ¬ Int.fmod left 2 = 1) (es : step' = Int.fmod (step * step) 2147483647) (el : left' = Int.fdiv left 2) : Far st m found step' left' := by
  subst es; subst el
  unfold Far at h ⊢
  rw [sq_mod, ← h]
  have e1 : Int.fmod left 2 = left % 2 := Int.fmod_eq_emod_of_nonneg left (by decide)
  have e2 : Int.fdiv left 2 = left / 2 := Int.fdiv_eq_ediv_of_nonneg left (by decide)
  rw [e1] at e
  rw [e2, show 2 * (left / 2).toNat = left.toNat by omega]
theorem far_odd {st m found step left step' left' found' : Int} (h : Far st m found step left) (h0 : 0 < left) (e : Int.fmod left 2 = 1) (ef : found' = Int.fmod (found * step) 2147483647) (es : step' = Int.fmod (step * step) 2147483647) (el : left' = Int.fdiv left 2) : Far st m found' step' left' := by
  subst es; subst el; subst ef
  unfold Far at h ⊢
  rw [sq_mod, ← h]
  have e1 : Int.fmod left 2 = left % 2 := Int.fmod_eq_emod_of_nonneg left (by decide)
  have e2 : Int.fdiv left 2 = left / 2 := Int.fdiv_eq_ediv_of_nonneg left (by decide)
  rw [e1] at e
  rw [e2, show left.toNat = 2 * (left / 2).toNat + 1 by omega, Int.pow_succ, fm, Int.mul_emod, Int.emod_emod, ← Int.mul_emod, Int.mul_assoc, Int.mul_comm step]
theorem far_end {st m found step left : Int} (h : Far st m found step left) (hl : left ≤ 0) (f0 : 0 ≤ found) (f1 : found < 2147483647) (h0 : 0 < st) (h1 : st < 2147483647) : found = it m.toNat st := by
  rw [it_pow h0 h1, ← h, show left.toNat = 0 by omega, Int.pow_zero, Int.mul_one]
  exact (Int.emod_eq_of_lt f0 f1).symm

/-! the five sevens, by the turn -/
noncomputable def sv : Nat → Int → Int
  | 0, s => s
  | n + 1, s => Int.fmod (sv n s * 7) 2147483647
def Sev (n : Nat) (a b : Int) : Prop := b = sv n a
theorem w3_start {z x : Int} (h : z = x) (h0 : 0 < x) (h1 : x < 2147483647) : Sev ([] : List Int).length z x ∧ 0 < x ∧ x < 2147483647 := ⟨h.symm, h0, h1⟩
theorem w3_turn {z st st' k : Int} {pre : List Int} (h : Sev pre.length z st) (h0 : 0 < st) (h1 : st < 2147483647) (e : st' = Int.fmod (st * 7) 2147483647) : Sev (pre ++ [k]).length z st' ∧ 0 < st' ∧ st' < 2147483647 := by
  subst e
  refine ⟨?_, seven_lo h0 h1, seven_hi st⟩
  show _ = sv (pre ++ [k]).length z
  rw [List.length_append, List.length_singleton, show st = sv pre.length z from h]
  rfl
theorem sev_end {z x st : Int} {k : Nat} (h : Sev k z st) (hz : z = x) (hk : k = 5) : st = nx x := by
  subst hk; subst hz
  exact (show st = _ from h).trans (nx5 z)

/-! the far one's while -/
theorem w4_start {st m : Int} (h0 : 0 < st) (h1 : st < 2147483647) (hm : 0 ≤ m) : 0 ≤ m ∧ 0 ≤ st ∧ st < 2147483647 ∧ (0 : Int) ≤ 16807 ∧ (16807 : Int) < 2147483647 ∧ Far st m st 16807 m := ⟨hm, Int.le_of_lt h0, h1, by decide, by decide, rfl⟩
theorem w4_half {left : Int} (h : 0 < left) : 0 ≤ Int.fdiv left 2 := by
  rw [Int.fdiv_eq_ediv_of_nonneg left (by decide)]; omega
theorem w4_less {left : Int} (h : 0 < left) : (Int.fdiv left 2).toNat < left.toNat := by
  rw [Int.fdiv_eq_ediv_of_nonneg left (by decide)]; omega
theorem w4_even {st m found step left : Int} (h : Far st m found step left) (h0 : 0 < left) (f0 : 0 ≤ found) (f1 : found < 2147483647) (e : ¬ Int.fmod left 2 = 1) :
    0 ≤ Int.fdiv left 2 ∧ 0 ≤ found ∧ found < 2147483647 ∧ 0 ≤ Int.fmod (step * step) 2147483647 ∧ Int.fmod (step * step) 2147483647 < 2147483647 ∧ Far st m found (Int.fmod (step * step) 2147483647) (Int.fdiv left 2) :=
  ⟨w4_half h0, f0, f1, fmod_lo _ (by decide), fmod_hi _ (by decide), far_even h h0 e rfl rfl⟩
theorem w4_odd {st m found step left : Int} (h : Far st m found step left) (h0 : 0 < left) (e : Int.fmod left 2 = 1) :
    0 ≤ Int.fdiv left 2 ∧ 0 ≤ Int.fmod (found * step) 2147483647 ∧ Int.fmod (found * step) 2147483647 < 2147483647 ∧ 0 ≤ Int.fmod (step * step) 2147483647 ∧ Int.fmod (step * step) 2147483647 < 2147483647 ∧ Far st m (Int.fmod (found * step) 2147483647) (Int.fmod (step * step) 2147483647) (Int.fdiv left 2) :=
  ⟨w4_half h0, fmod_lo _ (by decide), fmod_hi _ (by decide), fmod_lo _ (by decide), fmod_hi _ (by decide), far_odd h h0 e rfl rfl rfl⟩
theorem far_all {st m X found step left : Int} (h : Far st m found step left) (hl : ¬ 0 < left) (f0 : 0 ≤ found) (f1 : found < 2147483647) (hs : st = sd X) : found = it m.toNat (sd X) := by
  subst hs
  exact far_end h (by omega) f0 f1 (sd_lo X) (sd_hi X)
theorem iter_all {st₀ st X M : Int} {k : Nat} (h : Iter k st₀ st) (hs : st₀ = sd X) (hk : k = M.toNat) : st = it M.toNat (sd X) := by
  subst hs; subst hk
  exact h

structure FarMark : Prop where
  mark :: (one : True)

section
variable {prog : Program} {w : World} {h₀ h : Heap} {L d : Addr} {m : Str → Option Value} {G : Obj → List (Addr × Obj)} {news news' : List (Addr × Obj)} {x r r₁ r₂ : Int} {s s₂ : Shared} {v : Value} {t tr t₁ t₂ : Tok} {tk : Nat}

/-! a number told: an int of one object turns, and is told -/
def NumEnd (h₀ : Heap) (L : Addr) (m : Str → Option Value) (G : Obj → List (Addr × Obj)) (hh : Int) (kk : Value) (n : Nat) (x : Int) (s : Shared) (v : Value) (s₂ : Shared) : Prop :=
  ∃ (t₁ t₂ : Tok) (h : Heap) (tk : Nat), v = .int x t₁ ∧ s₂ = { s with heap := h, toks := tk } ∧ Fr h₀ L h m ∧ News h₀ L h (G (dictOf [⟨hh, kk, .int x t₂⟩] n))

theorem NumEnd.intro {hh : Int} {kk : Value} {n : Nat} (hv : v = .int r₁ t₁) (hs : s₂ = { s with heap := h, toks := tk }) (F : Fr h₀ L h m) (N : News h₀ L h news') (hn : ∀ p ∈ G (dictOf [⟨hh, kk, .int r₂ t₂⟩] n), p ∈ news') (hr₁ : r₁ = x) (hr₂ : r₂ = x) : NumEnd h₀ L m G hh kk n x s v s₂ := by
  subst hr₁
  subst hr₂
  exact ⟨t₁, t₂, h, tk, hv, hs, F, fun p hp => N p (hn p hp)⟩

theorem num_call {A : Around} {E : Value → Shared → Prop} {Q : Value → Shared → Prop} {env : Env} {y : Str} {p₁ p₂ p₃ : Pos} {a C dx : Addr} {hh : Int} {kk : Value} {n : Nat} {t₀ : Tok}
    (uF : Fr h₀ L s.heap m) (uN : News h₀ L s.heap news) (uhm : m y = some (.ref a)) (uhi : (a, instObj C dx) ∈ news) (uU : UpdF dx (dictOf [⟨hh, kk, .int x t₀⟩] n) news G) (h0 : 0 < x) (h1 : x < 2147483647)
    (hc : DrawMark → wpAny (model prog w) A (eval (Expr.Call (Expr.Attribute (Expr.Name y p₁) (Str.ofString "next_number") p₂) [] [] p₃) env) (fun v s₂ => NumEnd h₀ L m G hh kk n (nx x) s v s₂) E s)
    (hk : ∀ (r : Int) (t₁ t₂ : Tok) (h : Heap) (tk : Nat), r = nx x → 0 < r → r < 2147483647 → Fr h₀ L h m → News h₀ L h (G (dictOf [⟨hh, kk, .int r t₂⟩] n)) → Q (.int r t₁) { s with heap := h, toks := tk }) :
    wpAny (model prog w) A (eval (Expr.Call (Expr.Attribute (Expr.Name y p₁) (Str.ofString "next_number") p₂) [] [] p₃) env) Q E s := by
  refine wpAny_mono (hc ⟨trivial⟩) (fun v s₂ hq => ?_) fun _ _ h => h
  obtain ⟨t₁, t₂, h, tk, rfl, rfl, F', N'⟩ := hq
  exact hk _ t₁ t₂ h tk rfl (nx_lo h0 h1) (nx_hi x) F' N'

theorem far_call {A : Around} {E : Value → Shared → Prop} {Q : Value → Shared → Prop} {env : Env} {y z : Str} {p₁ p₂ p₃ p₄ p₅ p₆ : Pos} {X M st : Int} {tx tm ts : Tok}
    (uF : Fr h₀ L s.heap m) (uN : News h₀ L s.heap news) (uhm : m y = some (.int X tx)) (uhz : m z = some (.int M tm)) (uhs : m (Str.ofString "state") = some (.int st ts)) (he : st = it M.toNat (sd X))
    (hc : FarMark → wpAny (model prog w) A (eval (Expr.Call (Expr.Name (Str.ofString "_law_far") p₁) [Expr.Call (Expr.Name (Str.ofString "_law_seeded") p₂) [Expr.Name y p₃] [] p₄, Expr.Name z p₅] [] p₆) env) (fun v s₂ => FrEnd h₀ L m news (it M.toNat (sd X)) s v s₂) E s)
    (hk : ∀ (r : Int) (tr : Tok) (h : Heap) (tk : Nat), r = st → Fr h₀ L h m → News h₀ L h news → Q (.int r tr) { s with heap := h, toks := tk }) :
    wpAny (model prog w) A (eval (Expr.Call (Expr.Name (Str.ofString "_law_far") p₁) [Expr.Call (Expr.Name (Str.ofString "_law_seeded") p₂) [Expr.Name y p₃] [] p₄, Expr.Name z p₅] [] p₆) env) Q E s := by
  refine wpAny_mono (hc ⟨trivial⟩) (fun v s₂ hq => ?_) fun _ _ h => h
  obtain ⟨tr, h, tk, rfl, rfl, F', N'⟩ := hq
  exact hk _ tr h tk he.symm F' N'
end

structure PostMark : Prop where
  mark :: (one : True)
structure TurnMark : Prop where
  mark :: (one : True)
structure FoldMark : Prop where
  mark :: (one : True)

theorem sd_back {r x : Int} (h : r = sd x) (h0 : 0 < x) (h1 : x < 2147483647) : r = x := h.trans (sd_id h0 h1)
theorem no_ints {vs : List Value} {ns : List Int} (h : IntsAre vs ns) (e : ns = []) : vs = [] := by
  subst e
  cases h
  rfl
theorem w5_start {st : Int} (h0 : 0 < st) (h1 : st < 2147483647) : (0 : Int) + 1 + 1 + 1 + 1 = 4 + 2 * (([] : List Int).length : Int) ∧ 0 < st ∧ st < 2147483647 ∧ Same st st ∧ ([] : List Int) = [] :=
  ⟨rfl, h0, h1, rfl, rfl⟩
theorem w5_turn {pre items : List Int} {k a st rnd : Int} (ha : a = 4 + 2 * (pre.length : Int)) (hi : items = []) (h0 : 0 < st) (h1 : st < 2147483647) (h : rnd = st) :
    a + 1 + 1 = 4 + 2 * ((pre ++ [k]).length : Int) ∧ 0 < st ∧ st < 2147483647 ∧ Same rnd st ∧ items = [] := by
  refine ⟨?_, h0, h1, h, hi⟩
  rw [List.length_append, List.length_singleton, ha, Int.natCast_add]
  omega
theorem w5_by {pre items : List Int} {k a st rnd x : Int} (ha : a = 4 + 2 * (pre.length : Int)) (hi : items = []) (e : st = x) (e' : rnd = x) (h0 : 0 < st) (h1 : st < 2147483647) :
    a + 1 + 1 = 4 + 2 * ((pre ++ [k]).length : Int) ∧ 0 < st ∧ st < 2147483647 ∧ Same rnd st ∧ items = [] :=
  w5_turn ha hi h0 h1 (e'.trans e.symm)

/-- the machine's attributes: the tokens of its names and what is not asked for are two functions -/
noncomputable def mEs (w : World) (T : Nat → Tok) (V : Nat → Value) (xs : Addr) (y : Int) (u : Tok) : List DictEntry :=
  [⟨PyData.keyHash w.params (Str.ofString "memory"), .str (Str.ofString "memory") (T 0), (V 0)⟩, ⟨PyData.keyHash w.params (Str.ofString "operands"), .str (Str.ofString "operands") (T 1), .ref xs⟩, ⟨PyData.keyHash w.params (Str.ofString "dicts"), .str (Str.ofString "dicts") (T 2), (V 2)⟩, ⟨PyData.keyHash w.params (Str.ofString "scanner"), .str (Str.ofString "scanner") (T 3), (V 3)⟩, ⟨PyData.keyHash w.params (Str.ofString "limits"), .str (Str.ofString "limits") (T 4), (V 4)⟩, ⟨PyData.keyHash w.params (Str.ofString "disk"), .str (Str.ofString "disk") (T 5), (V 5)⟩, ⟨PyData.keyHash w.params (Str.ofString "files"), .str (Str.ofString "files") (T 6), (V 6)⟩, ⟨PyData.keyHash w.params (Str.ofString "out"), .str (Str.ofString "out") (T 7), (V 7)⟩, ⟨PyData.keyHash w.params (Str.ofString "frames"), .str (Str.ofString "frames") (T 8), (V 8)⟩, ⟨PyData.keyHash w.params (Str.ofString "table"), .str (Str.ofString "table") (T 9), (V 9)⟩, ⟨PyData.keyHash w.params (Str.ofString "system"), .str (Str.ofString "system") (T 10), (V 10)⟩, ⟨PyData.keyHash w.params (Str.ofString "globals"), .str (Str.ofString "globals") (T 11), (V 11)⟩, ⟨PyData.keyHash w.params (Str.ofString "user"), .str (Str.ofString "user") (T 12), (V 12)⟩, ⟨PyData.keyHash w.params (Str.ofString "gs"), .str (Str.ofString "gs") (T 13), (V 13)⟩, ⟨PyData.keyHash w.params (Str.ofString "gstack"), .str (Str.ofString "gstack") (T 14), (V 14)⟩, ⟨PyData.keyHash w.params (Str.ofString "device"), .str (Str.ofString "device") (T 15), (V 15)⟩, ⟨PyData.keyHash w.params (Str.ofString "fonts"), .str (Str.ofString "fonts") (T 16), (V 16)⟩, ⟨PyData.keyHash w.params (Str.ofString "resources"), .str (Str.ofString "resources") (T 17), (V 17)⟩, ⟨PyData.keyHash w.params (Str.ofString "steps"), .str (Str.ofString "steps") (T 18), (V 18)⟩, ⟨PyData.keyHash w.params (Str.ofString "random"), .str (Str.ofString "random") (T 19), .int y u⟩, ⟨PyData.keyHash w.params (Str.ofString "is_packing"), .str (Str.ofString "is_packing") (T 20), (V 20)⟩, ⟨PyData.keyHash w.params (Str.ofString "is_stopped"), .str (Str.ofString "is_stopped") (T 21), (V 21)⟩, ⟨PyData.keyHash w.params (Str.ofString "tracer"), .str (Str.ofString "tracer") (T 22), (V 22)⟩, ⟨PyData.keyHash w.params (Str.ofString "errors"), .str (Str.ofString "errors") (T 23), (V 23)⟩, ⟨PyData.keyHash w.params (Str.ofString "fault"), .str (Str.ofString "fault") (T 24), (V 24)⟩, ⟨PyData.keyHash w.params (Str.ofString "current"), .str (Str.ofString "current") (T 25), (V 25)⟩]
theorem mEs_operands {w : World} {T : Nat → Tok} {V : Nat → Value} {xs : Addr} {y : Int} {u : Tok} : getL (Str.ofString "operands") (mEs w T V xs y u) = some (some (.ref xs)) := rfl
theorem mEs_random {w : World} {T : Nat → Tok} {V : Nat → Value} {xs : Addr} {y : Int} {u : Tok} : getL (Str.ofString "random") (mEs w T V xs y u) = some (some (.int y u)) := rfl
theorem mEs_has {w : World} {T : Nat → Tok} {V : Nat → Value} {xs : Addr} {y : Int} {u : Tok} : (getL (Str.ofString "random") (mEs w T V xs y u)).isSome = true := rfl
theorem mEs_put {w : World} {T : Nat → Tok} {V : Nat → Value} {xs : Addr} {y y' : Int} {u u' : Tok} {hh : Int} {kk : Value} {n : Nat} :
    (putL (Str.ofString "random") hh kk (.int y' u') (mEs w T V xs y u), putN (Str.ofString "random") (mEs w T V xs y u) n) = (mEs w T V xs y' u', n) := rfl
theorem mEs_len {w : World} {T : Nat → Tok} {V : Nat → Value} {xs : Addr} {y : Int} {u : Tok} : (mEs w T V xs y u).length ≤ 1000 := Nat.le_of_ble_eq_true rfl

section
variable {prog : Program} {w : World} {h₀ : Heap} {L : Addr} {m : Str → Option Value} {news : List (Addr × Obj)} {s : Shared}

/-- the machine stands: the tokens of its names, what it holds and is not asked for, and the rest of the ledger are forgotten -/
theorem post_join {A : Around} {E : Value → Shared → Prop} {Q : Flow → Shared → Prop} {env : Env} {st : Stmt} {x dM C xs C' dS l dk cl gx : Addr} {n n' lv ep : Nat} {a y : Int} {t u um tm th tc ta t0 t1 t2 t3 t4 t5 t6 t7 t8 t9 t10 t11 t12 t13 t14 t15 t16 t17 t18 t19 t20 t21 t22 t23 t24 t25 : Tok} {v0 v2 v3 v4 v5 v6 v7 v8 v9 v10 v11 v12 v13 v14 v15 v16 v17 v18 v20 v21 v22 v23 v24 v25 : Value} {oc og : Obj}
    (F : Fr h₀ L s.heap m) (N : News h₀ L s.heap news) (uhm : m (Str.ofString "post") = some (.ref x)) (uhd : m (Str.ofString "deck") = some (.ref dk))
    (hs : ∀ p ∈ ([(x, instObj C dM), (dM, dictOf [⟨PyData.keyHash w.params (Str.ofString "memory"), .str (Str.ofString "memory") t0, v0⟩, ⟨PyData.keyHash w.params (Str.ofString "operands"), .str (Str.ofString "operands") t1, .ref xs⟩, ⟨PyData.keyHash w.params (Str.ofString "dicts"), .str (Str.ofString "dicts") t2, v2⟩, ⟨PyData.keyHash w.params (Str.ofString "scanner"), .str (Str.ofString "scanner") t3, v3⟩, ⟨PyData.keyHash w.params (Str.ofString "limits"), .str (Str.ofString "limits") t4, v4⟩, ⟨PyData.keyHash w.params (Str.ofString "disk"), .str (Str.ofString "disk") t5, v5⟩, ⟨PyData.keyHash w.params (Str.ofString "files"), .str (Str.ofString "files") t6, v6⟩, ⟨PyData.keyHash w.params (Str.ofString "out"), .str (Str.ofString "out") t7, v7⟩, ⟨PyData.keyHash w.params (Str.ofString "frames"), .str (Str.ofString "frames") t8, v8⟩, ⟨PyData.keyHash w.params (Str.ofString "table"), .str (Str.ofString "table") t9, v9⟩, ⟨PyData.keyHash w.params (Str.ofString "system"), .str (Str.ofString "system") t10, v10⟩, ⟨PyData.keyHash w.params (Str.ofString "globals"), .str (Str.ofString "globals") t11, v11⟩, ⟨PyData.keyHash w.params (Str.ofString "user"), .str (Str.ofString "user") t12, v12⟩, ⟨PyData.keyHash w.params (Str.ofString "gs"), .str (Str.ofString "gs") t13, v13⟩, ⟨PyData.keyHash w.params (Str.ofString "gstack"), .str (Str.ofString "gstack") t14, v14⟩, ⟨PyData.keyHash w.params (Str.ofString "device"), .str (Str.ofString "device") t15, v15⟩, ⟨PyData.keyHash w.params (Str.ofString "fonts"), .str (Str.ofString "fonts") t16, v16⟩, ⟨PyData.keyHash w.params (Str.ofString "resources"), .str (Str.ofString "resources") t17, v17⟩, ⟨PyData.keyHash w.params (Str.ofString "steps"), .str (Str.ofString "steps") t18, v18⟩, ⟨PyData.keyHash w.params (Str.ofString "random"), .str (Str.ofString "random") t19, .int y u⟩, ⟨PyData.keyHash w.params (Str.ofString "is_packing"), .str (Str.ofString "is_packing") t20, v20⟩, ⟨PyData.keyHash w.params (Str.ofString "is_stopped"), .str (Str.ofString "is_stopped") t21, v21⟩, ⟨PyData.keyHash w.params (Str.ofString "tracer"), .str (Str.ofString "tracer") t22, v22⟩, ⟨PyData.keyHash w.params (Str.ofString "errors"), .str (Str.ofString "errors") t23, v23⟩, ⟨PyData.keyHash w.params (Str.ofString "fault"), .str (Str.ofString "fault") t24, v24⟩, ⟨PyData.keyHash w.params (Str.ofString "current"), .str (Str.ofString "current") t25, v25⟩] n), (xs, instObj C' dS), (dS, dictOf [⟨PyData.keyHash w.params (Str.ofString "most"), .str (Str.ofString "most") tm, .int 4 um⟩, ⟨PyData.keyHash w.params (Str.ofString "things"), .str (Str.ofString "things") th, .ref l⟩] n'), (l, listOf #[] lv),
  (dk, dictOf [⟨hashStr w (Str.ofString "cells"), .str (Str.ofString "cells") tc, .ref cl⟩, ⟨hashStr w (Str.ofString "at"), .str (Str.ofString "at") ta, .int a t⟩] ep), (cl, oc), (gx, og)] : List (Addr × Obj)), p ∈ news)
    (hk : PostMark → ∀ (lv : Nat) (T : Nat → Tok) (V : Nat → Value) (t u um tm th tc ta : Tok) (h : Heap) (tk : Nat), Fr h₀ L h m → News h₀ L h [(x, instObj C dM), (dM, dictOf (mEs w T V xs y u) n), (xs, instObj C' dS), (dS, dictOf [⟨PyData.keyHash w.params (Str.ofString "most"), .str (Str.ofString "most") tm, .int 4 um⟩, ⟨PyData.keyHash w.params (Str.ofString "things"), .str (Str.ofString "things") th, .ref l⟩] n'), (l, listOf #[] lv),
  (dk, dictOf [⟨hashStr w (Str.ofString "cells"), .str (Str.ofString "cells") tc, .ref cl⟩, ⟨hashStr w (Str.ofString "at"), .str (Str.ofString "at") ta, .int a t⟩] ep), (cl, oc), (gx, og)] →
      wpAny (model prog w) A (exec st env) Q E { s with heap := h, toks := tk }) :
    wpAny (model prog w) A (exec st env) Q E s :=
  hk ⟨trivial⟩ lv (fun i => [t0, t1, t2, t3, t4, t5, t6, t7, t8, t9, t10, t11, t12, t13, t14, t15, t16, t17, t18, t19, t20, t21, t22, t23, t24, t25].getD i 0) (fun i => [v0, .none, v2, v3, v4, v5, v6, v7, v8, v9, v10, v11, v12, v13, v14, v15, v16, v17, v18, .none, v20, v21, v22, v23, v24, v25].getD i .none) t u um tm th tc ta s.heap s.toks F fun p hp => N p (hs p hp)

theorem post_join2 {A : Around} {E : Value → Shared → Prop} {Q : Flow → Shared → Prop} {env : Env} {st : Stmt} {x dM C xs C' dS l dk cl gx : Addr} {n n' lv ep : Nat} {a y : Int} {t u um tm th tc ta : Tok} {T : Nat → Tok} {V : Nat → Value} {oc og : Obj}
    (F : Fr h₀ L s.heap m) (N : News h₀ L s.heap news) (uhm : m (Str.ofString "post") = some (.ref x)) (uhd : m (Str.ofString "deck") = some (.ref dk))
    (hs : ∀ p ∈ ([(x, instObj C dM), (dM, dictOf (mEs w T V xs y u) n), (xs, instObj C' dS), (dS, dictOf [⟨PyData.keyHash w.params (Str.ofString "most"), .str (Str.ofString "most") tm, .int 4 um⟩, ⟨PyData.keyHash w.params (Str.ofString "things"), .str (Str.ofString "things") th, .ref l⟩] n'), (l, listOf #[] lv),
  (dk, dictOf [⟨hashStr w (Str.ofString "cells"), .str (Str.ofString "cells") tc, .ref cl⟩, ⟨hashStr w (Str.ofString "at"), .str (Str.ofString "at") ta, .int a t⟩] ep), (cl, oc), (gx, og)] : List (Addr × Obj)), p ∈ news)
    (hk : TurnMark → ∀ (lv : Nat) (t u um tm th tc ta : Tok) (h : Heap) (tk : Nat), Fr h₀ L h m → News h₀ L h [(x, instObj C dM), (dM, dictOf [⟨PyData.keyHash w.params (Str.ofString "memory"), .str (Str.ofString "memory") (T 0), (V 0)⟩, ⟨PyData.keyHash w.params (Str.ofString "operands"), .str (Str.ofString "operands") (T 1), .ref xs⟩, ⟨PyData.keyHash w.params (Str.ofString "dicts"), .str (Str.ofString "dicts") (T 2), (V 2)⟩, ⟨PyData.keyHash w.params (Str.ofString "scanner"), .str (Str.ofString "scanner") (T 3), (V 3)⟩, ⟨PyData.keyHash w.params (Str.ofString "limits"), .str (Str.ofString "limits") (T 4), (V 4)⟩, ⟨PyData.keyHash w.params (Str.ofString "disk"), .str (Str.ofString "disk") (T 5), (V 5)⟩, ⟨PyData.keyHash w.params (Str.ofString "files"), .str (Str.ofString "files") (T 6), (V 6)⟩, ⟨PyData.keyHash w.params (Str.ofString "out"), .str (Str.ofString "out") (T 7), (V 7)⟩, ⟨PyData.keyHash w.params (Str.ofString "frames"), .str (Str.ofString "frames") (T 8), (V 8)⟩, ⟨PyData.keyHash w.params (Str.ofString "table"), .str (Str.ofString "table") (T 9), (V 9)⟩, ⟨PyData.keyHash w.params (Str.ofString "system"), .str (Str.ofString "system") (T 10), (V 10)⟩, ⟨PyData.keyHash w.params (Str.ofString "globals"), .str (Str.ofString "globals") (T 11), (V 11)⟩, ⟨PyData.keyHash w.params (Str.ofString "user"), .str (Str.ofString "user") (T 12), (V 12)⟩, ⟨PyData.keyHash w.params (Str.ofString "gs"), .str (Str.ofString "gs") (T 13), (V 13)⟩, ⟨PyData.keyHash w.params (Str.ofString "gstack"), .str (Str.ofString "gstack") (T 14), (V 14)⟩, ⟨PyData.keyHash w.params (Str.ofString "device"), .str (Str.ofString "device") (T 15), (V 15)⟩, ⟨PyData.keyHash w.params (Str.ofString "fonts"), .str (Str.ofString "fonts") (T 16), (V 16)⟩, ⟨PyData.keyHash w.params (Str.ofString "resources"), .str (Str.ofString "resources") (T 17), (V 17)⟩, ⟨PyData.keyHash w.params (Str.ofString "steps"), .str (Str.ofString "steps") (T 18), (V 18)⟩, ⟨PyData.keyHash w.params (Str.ofString "random"), .str (Str.ofString "random") (T 19), .int y u⟩, ⟨PyData.keyHash w.params (Str.ofString "is_packing"), .str (Str.ofString "is_packing") (T 20), (V 20)⟩, ⟨PyData.keyHash w.params (Str.ofString "is_stopped"), .str (Str.ofString "is_stopped") (T 21), (V 21)⟩, ⟨PyData.keyHash w.params (Str.ofString "tracer"), .str (Str.ofString "tracer") (T 22), (V 22)⟩, ⟨PyData.keyHash w.params (Str.ofString "errors"), .str (Str.ofString "errors") (T 23), (V 23)⟩, ⟨PyData.keyHash w.params (Str.ofString "fault"), .str (Str.ofString "fault") (T 24), (V 24)⟩, ⟨PyData.keyHash w.params (Str.ofString "current"), .str (Str.ofString "current") (T 25), (V 25)⟩] n), (xs, instObj C' dS), (dS, dictOf [⟨PyData.keyHash w.params (Str.ofString "most"), .str (Str.ofString "most") tm, .int 4 um⟩, ⟨PyData.keyHash w.params (Str.ofString "things"), .str (Str.ofString "things") th, .ref l⟩] n'), (l, listOf #[] lv),
  (dk, dictOf [⟨hashStr w (Str.ofString "cells"), .str (Str.ofString "cells") tc, .ref cl⟩, ⟨hashStr w (Str.ofString "at"), .str (Str.ofString "at") ta, .int a t⟩] ep), (cl, oc), (gx, og)] →
      wpAny (model prog w) A (exec st env) Q E { s with heap := h, toks := tk }) :
    wpAny (model prog w) A (exec st env) Q E s :=
  hk ⟨trivial⟩ lv t u um tm th tc ta s.heap s.toks F fun p hp => N p (hs p hp)

/-- a turn begins: what the word wrote out is folded again -/
theorem turn_join {A : Around} {E : Value → Shared → Prop} {Q : Flow → Shared → Prop} {env : Env} {st : Stmt} {x dM C xs : Addr} {n : Nat} {y : Int} {u : Tok} {T : Nat → Tok} {V : Nat → Value} {rest : List (Addr × Obj)}
    (N : News h₀ L s.heap ((x, instObj C dM) :: (dM, dictOf [⟨PyData.keyHash w.params (Str.ofString "memory"), .str (Str.ofString "memory") (T 0), (V 0)⟩, ⟨PyData.keyHash w.params (Str.ofString "operands"), .str (Str.ofString "operands") (T 1), .ref xs⟩, ⟨PyData.keyHash w.params (Str.ofString "dicts"), .str (Str.ofString "dicts") (T 2), (V 2)⟩, ⟨PyData.keyHash w.params (Str.ofString "scanner"), .str (Str.ofString "scanner") (T 3), (V 3)⟩, ⟨PyData.keyHash w.params (Str.ofString "limits"), .str (Str.ofString "limits") (T 4), (V 4)⟩, ⟨PyData.keyHash w.params (Str.ofString "disk"), .str (Str.ofString "disk") (T 5), (V 5)⟩, ⟨PyData.keyHash w.params (Str.ofString "files"), .str (Str.ofString "files") (T 6), (V 6)⟩, ⟨PyData.keyHash w.params (Str.ofString "out"), .str (Str.ofString "out") (T 7), (V 7)⟩, ⟨PyData.keyHash w.params (Str.ofString "frames"), .str (Str.ofString "frames") (T 8), (V 8)⟩, ⟨PyData.keyHash w.params (Str.ofString "table"), .str (Str.ofString "table") (T 9), (V 9)⟩, ⟨PyData.keyHash w.params (Str.ofString "system"), .str (Str.ofString "system") (T 10), (V 10)⟩, ⟨PyData.keyHash w.params (Str.ofString "globals"), .str (Str.ofString "globals") (T 11), (V 11)⟩, ⟨PyData.keyHash w.params (Str.ofString "user"), .str (Str.ofString "user") (T 12), (V 12)⟩, ⟨PyData.keyHash w.params (Str.ofString "gs"), .str (Str.ofString "gs") (T 13), (V 13)⟩, ⟨PyData.keyHash w.params (Str.ofString "gstack"), .str (Str.ofString "gstack") (T 14), (V 14)⟩, ⟨PyData.keyHash w.params (Str.ofString "device"), .str (Str.ofString "device") (T 15), (V 15)⟩, ⟨PyData.keyHash w.params (Str.ofString "fonts"), .str (Str.ofString "fonts") (T 16), (V 16)⟩, ⟨PyData.keyHash w.params (Str.ofString "resources"), .str (Str.ofString "resources") (T 17), (V 17)⟩, ⟨PyData.keyHash w.params (Str.ofString "steps"), .str (Str.ofString "steps") (T 18), (V 18)⟩, ⟨PyData.keyHash w.params (Str.ofString "random"), .str (Str.ofString "random") (T 19), .int y u⟩, ⟨PyData.keyHash w.params (Str.ofString "is_packing"), .str (Str.ofString "is_packing") (T 20), (V 20)⟩, ⟨PyData.keyHash w.params (Str.ofString "is_stopped"), .str (Str.ofString "is_stopped") (T 21), (V 21)⟩, ⟨PyData.keyHash w.params (Str.ofString "tracer"), .str (Str.ofString "tracer") (T 22), (V 22)⟩, ⟨PyData.keyHash w.params (Str.ofString "errors"), .str (Str.ofString "errors") (T 23), (V 23)⟩, ⟨PyData.keyHash w.params (Str.ofString "fault"), .str (Str.ofString "fault") (T 24), (V 24)⟩, ⟨PyData.keyHash w.params (Str.ofString "current"), .str (Str.ofString "current") (T 25), (V 25)⟩] n) :: rest))
    (hk : FoldMark → News h₀ L s.heap ((x, instObj C dM) :: (dM, dictOf (mEs w T V xs y u) n) :: rest) → wpAny (model prog w) A (exec st env) Q E s) :
    wpAny (model prog w) A (exec st env) Q E s := hk ⟨trivial⟩ N
end

/-- the count of tokens so far is forgotten at a statement's head -/
theorem tok_join {m : Model} {A : Around} {st : Stmt} {rest : List Stmt} {env : Env} {Q : Flow → Shared → Prop} {E : Value → Shared → Prop} {h : Heap} {g : Array GenState} {d : Drawn} {os : OsState} {a b : Nat}
    (k : ∀ tk, wpAny m A (execs (st :: rest) env) Q E ⟨h, g, d, tk, os⟩) : wpAny m A (execs (st :: rest) env) Q E ⟨h, g, d, a + b, os⟩ := k _

/-! srand of a machine with one thing on its stack: walked once, used at three places -/
def SrandEnd (w : World) (h₀ : Heap) (L : Addr) (m : Str → Option Value) (T : Nat → Tok) (V : Nat → Value) (x dM xs dS l dk cl gx : Addr) (n n' : Nat) (k : Int) (um tm th : Tok) (od oc og : Obj) (own : List (Addr × Obj)) (s : Shared) (v : Value) (s₂ : Shared) : Prop :=
  v = .none ∧ ∃ (u : Tok) (lv : Nat) (h : Heap) (tk : Nat), s₂ = { s with heap := h, toks := tk } ∧ Fr h₀ L h m ∧
    News h₀ L h ((x, instObj (719 : Nat) dM) :: (dM, dictOf (mEs w T V xs (sd k) u) n) :: (xs, instObj (825 : Nat) dS) :: (dS, dictOf [⟨PyData.keyHash w.params (Str.ofString "most"), .str (Str.ofString "most") tm, .int 4 um⟩, ⟨PyData.keyHash w.params (Str.ofString "things"), .str (Str.ofString "things") th, .ref l⟩] n') :: (l, listOf #[] lv) :: (dk, od) :: (cl, oc) :: (gx, og) :: own)
def SrandSpec (prog : Program) (w : World) (A : Around) (h₀ : Heap) (L : Addr) : Prop :=
  ∀ (E : Value → Shared → Prop) (m : Str → Option Value) (s : Shared) (T : Nat → Tok) (V : Nat → Value) (x dM xs dS l dk cl gx tg dT : Addr) (n n' lv nt : Nat) (y k : Int) (u um tm th t₁ t₂ t₃ t₄ t₅ t₆ : Tok) (v₅ v₆ : Value) (od oc og : Obj) (own : List (Addr × Obj)),
    PostMark → (l ≠ x ∧ l ≠ dM ∧ l ≠ xs ∧ l ≠ dS ∧ l ≠ tg ∧ l ≠ dT ∧ l ≠ dk ∧ l ≠ cl ∧ l ≠ gx ∧ dM ≠ x ∧ dM ≠ xs ∧ dM ≠ dS ∧ dM ≠ tg ∧ dM ≠ dT ∧ dM ≠ dk ∧ dM ≠ cl ∧ dM ≠ gx) → OwnOff own [l, dM] → Fr h₀ L s.heap m →
    News h₀ L s.heap ((x, instObj (719 : Nat) dM) :: (dM, dictOf (mEs w T V xs y u) n) :: (xs, instObj (825 : Nat) dS) :: (dS, dictOf [⟨PyData.keyHash w.params (Str.ofString "most"), .str (Str.ofString "most") tm, .int 4 um⟩, ⟨PyData.keyHash w.params (Str.ofString "things"), .str (Str.ofString "things") th, .ref l⟩] n') :: (l, listOf #[.ref tg] lv) :: (tg, instObj (137 : Nat) dT) :: (dT, dictOf [⟨PyData.keyHash w.params (Str.ofString "kind"), .str (Str.ofString "kind") t₁, .str (Str.ofString "integer") t₂⟩, ⟨PyData.keyHash w.params (Str.ofString "value"), .str (Str.ofString "value") t₃, .int k t₄⟩, ⟨PyData.keyHash w.params (Str.ofString "is_exec"), .str (Str.ofString "is_exec") t₅, v₅⟩, ⟨PyData.keyHash w.params (Str.ofString "access"), .str (Str.ofString "access") t₆, v₆⟩] nt) :: (dk, od) :: (cl, oc) :: (gx, og) :: own) →
    wpAny (model prog w) A (call (.ref 864) [.ref x]) (fun v s₂ => SrandEnd w h₀ L m T V x dM xs dS l dk cl gx n n' k um tm th od oc og own s v s₂) E s
structure SrandKnown (prog : Program) (w : World) (A : Around) (h₀ : Heap) (L : Addr) : Prop where
  spec : SrandSpec prog w A h₀ L

section
variable {prog : Program} {w : World} {A : Around} {h₀ h : Heap} {L : Addr} {m : Str → Option Value} {news news' : List (Addr × Obj)} {s s₂ : Shared}
theorem srand_in {α : Type} {c : Sem α} {Q : α → Shared → Prop} {E : Value → Shared → Prop} (uf : Fr h₀ L s.heap m) (own : SrandSpec prog w A h₀ L) (hk : SrandKnown prog w A h₀ L → wpAny (model prog w) A c Q E s) :
    wpAny (model prog w) A c Q E s := hk ⟨own⟩
theorem mem_both {l own news : List (Addr × Obj)} (hs : ∀ p ∈ l, p ∈ news) (ho : ∀ p ∈ own, p ∈ news) : ∀ p ∈ l ++ own, p ∈ news := fun p hp => (List.mem_append.mp hp).elim (hs p) (ho p)
theorem off_nil {adr : List Addr} : OwnOff [] adr := fun _ hp => nomatch hp
theorem off_two {own : List (Addr × Obj)} {adr : List Addr} {a b : Addr} (h : OwnOff own adr) (ha : a ∈ adr) (hb : b ∈ adr) : OwnOff own [a, b] :=
  fun p hp c hc => h p hp c (by
    rcases List.mem_cons.mp hc with rfl | hc
    · exact ha
    · rcases List.mem_cons.mp hc with rfl | hc
      · exact hb
      · cases hc)
theorem SrandEnd.intro {T : Nat → Tok} {V : Nat → Value} {x dM xs dS l dk cl gx : Addr} {n n' lv tk : Nat} {k r : Int} {u um tm th : Tok} {od oc og : Obj} {own : List (Addr × Obj)} (hs : s₂ = { s with heap := h, toks := tk }) (F : Fr h₀ L h m) (N : News h₀ L h news')
    (hn : ∀ p ∈ ((x, instObj (719 : Nat) dM) :: (dM, dictOf (mEs w T V xs r u) n) :: (xs, instObj (825 : Nat) dS) :: (dS, dictOf [⟨PyData.keyHash w.params (Str.ofString "most"), .str (Str.ofString "most") tm, .int 4 um⟩, ⟨PyData.keyHash w.params (Str.ofString "things"), .str (Str.ofString "things") th, .ref l⟩] n') :: (l, listOf #[] lv) :: (dk, od) :: (cl, oc) :: (gx, og) :: own : List (Addr × Obj)), p ∈ news')
    (hr : r = sd k) : SrandEnd w h₀ L m T V x dM xs dS l dk cl gx n n' k um tm th od oc og own s .none s₂ := by
  subst hr
  exact ⟨rfl, u, lv, h, tk, hs, F, fun p hp => N p (hn p hp)⟩
theorem srand_use {E : Value → Shared → Prop} {Q : Value → Shared → Prop} {T : Nat → Tok} {V : Nat → Value} {x dM xs dS l dk cl gx tg dT : Addr} {n n' lv nt : Nat} {y k : Int} {u um tm th t₁ t₂ t₃ t₄ t₅ t₆ : Tok} {v₅ v₆ : Value} {oc og : Obj} {own : List (Addr × Obj)} {hc ha : Int} {kc ka av : Value} {ep : Nat}
    (K : SrandKnown prog w A h₀ L) (M : PostMark) (F : Fr h₀ L s.heap m) (N : News h₀ L s.heap news) (uhd : m (Str.ofString "deck") = some (.ref dk)) (O : l ≠ x ∧ l ≠ dM ∧ l ≠ xs ∧ l ≠ dS ∧ l ≠ tg ∧ l ≠ dT ∧ l ≠ dk ∧ l ≠ cl ∧ l ≠ gx ∧ dM ≠ x ∧ dM ≠ xs ∧ dM ≠ dS ∧ dM ≠ tg ∧ dM ≠ dT ∧ dM ≠ dk ∧ dM ≠ cl ∧ dM ≠ gx)
    (hO : OwnOff own [l, dM]) (ho : ∀ p ∈ own, p ∈ news)
    (hs : ∀ p ∈ [(x, instObj (719 : Nat) dM), (dM, dictOf (mEs w T V xs y u) n), (xs, instObj (825 : Nat) dS), (dS, dictOf [⟨PyData.keyHash w.params (Str.ofString "most"), .str (Str.ofString "most") tm, .int 4 um⟩, ⟨PyData.keyHash w.params (Str.ofString "things"), .str (Str.ofString "things") th, .ref l⟩] n'), (l, listOf #[.ref tg] lv),
      (tg, instObj (137 : Nat) dT), (dT, dictOf [⟨PyData.keyHash w.params (Str.ofString "kind"), .str (Str.ofString "kind") t₁, .str (Str.ofString "integer") t₂⟩, ⟨PyData.keyHash w.params (Str.ofString "value"), .str (Str.ofString "value") t₃, .int k t₄⟩, ⟨PyData.keyHash w.params (Str.ofString "is_exec"), .str (Str.ofString "is_exec") t₅, v₅⟩, ⟨PyData.keyHash w.params (Str.ofString "access"), .str (Str.ofString "access") t₆, v₆⟩] nt),
      (dk, dictOf [⟨hc, kc, .ref cl⟩, ⟨ha, ka, av⟩] ep), (cl, oc), (gx, og)], p ∈ news)
    (hk : ∀ (r : Int) (u : Tok) (lv : Nat) (h : Heap) (tk : Nat), r = sd k → 0 < r → r < 2147483647 → Fr h₀ L h m →
      News h₀ L h ((x, instObj (719 : Nat) dM) :: (dM, dictOf (mEs w T V xs r u) n) :: (xs, instObj (825 : Nat) dS) :: (dS, dictOf [⟨PyData.keyHash w.params (Str.ofString "most"), .str (Str.ofString "most") tm, .int 4 um⟩, ⟨PyData.keyHash w.params (Str.ofString "things"), .str (Str.ofString "things") th, .ref l⟩] n') :: (l, listOf #[] lv) :: (dk, dictOf [⟨hc, kc, .ref cl⟩, ⟨ha, ka, av⟩] ep) :: (cl, oc) :: (gx, og) :: own) →
      Q .none { s with heap := h, toks := tk }) :
    wpAny (model prog w) A (call (.ref 864) [.ref x]) Q E s := by
  refine wpAny_mono (K.spec E m s T V x dM xs dS l dk cl gx tg dT n n' lv nt y k u um tm th t₁ t₂ t₃ t₄ t₅ t₆ v₅ v₆ _ oc og own M O hO F fun p hp => N p (mem_both hs ho p hp)) (fun v s₂ hq => ?_) fun _ _ h => h
  obtain ⟨rfl, u', lv', h, tk, rfl, F', N'⟩ := hq
  exact hk _ u' lv' h tk rfl (sd_lo k) (sd_hi k) F' N'
end

/-! an address stands above a whole row of the ledger: it is in none of its places -/
theorem ne_all {d : Nat} {l : List (Addr × Obj)} (h : AllLt d l) : ∀ p ∈ l, p.1 ≠ d := by
  induction l with
  | nil => exact fun _ hp => nomatch hp
  | cons q r ih => exact List.forall_mem_cons.mpr ⟨Nat.ne_of_lt h.1, ih h.2⟩
def RowLt (d : Nat) : List (Addr × Obj) → Prop
  | [] => True
  | [p] => @LT.lt Nat _ p.1 d
  | p :: q :: r => @LT.lt Nat _ p.1 d ∧ RowLt d (q :: r)
theorem rowLt_of {d : Nat} {l : List (Addr × Obj)} (h : RowLt d l) : AllLt d l := by
  induction l with
  | nil => trivial
  | cons q r ih =>
    cases r with
    | nil => exact ⟨h, trivial⟩
    | cons q' r' => exact ⟨h.1, ih h.2⟩
theorem ne_row {d : Nat} {l : List (Addr × Obj)} (h : RowLt d l) : ∀ p ∈ l, p.1 ≠ d := ne_all (rowLt_of h)

section
set_option maxRecDepth 100000
set_option maxHeartbeats 0
noncomputable def nth : List Stmt → Nat → Stmt
  | [], _ => .Pass default
  | s :: _, 0 => s
  | _ :: l, n + 1 => nth l n
noncomputable def inCls : Stmt → List Stmt
  | .ClassDef _ _ _ b .. => b
  | _ => []
noncomputable def st (i : Nat) : Stmt := nth Challenge.pw_on0274_01.main.body i
noncomputable def mt (i j : Nat) : Stmt := nth (inCls (st i)) j
noncomputable abbrev fnO {s : Stmt} {n : Str} {A : Arguments} {B : List Stmt} {d : List Expr} {r : Option Expr} {tp : List TypeParam} {S : Scope} {ts : Option Scope} {b : Str} {ps : Pos}
    (_ : s = .FunctionDef n A B d r tp S ts b ps) (oc : Value) (od : Option Addr) (sl : Array (Option Value)) (qn : Str) (g : Addr) (cl : List (Str × Addr)) (dV kV doc pm : Value) (an : Option Addr) (cd ct : Value) (bi : Addr) : Obj :=
  ⟨oc, od, .func ⟨n, qn, A, .stmts B, S, g, cl, dV, kV, doc, pm, an, cd, ct, bi⟩, sl⟩
noncomputable def K (P : Params) : Frag :=
  (nat_lit 2, (.mk .none .none (.dict #[(.mk (PyData.keyHash P (.ofString "type.__subclasses__.Exception.0")) (.str (.ofString "type.__subclasses__.Exception.0") (278:Nat)) (.int 75 (0:Nat))), (.mk (PyData.keyHash P (.ofString "type.__subclasses__.Exception.n")) (.str (.ofString "type.__subclasses__.Exception.n") (279:Nat)) (.int 1 (0:Nat)))] (2:Nat)) #[])) ::
  (nat_lit 3, (.mk (.type "dict") .none (.dict (List.toArray ((.mk (PyData.keyHash P (.ofString "__name__")) (.str (.ofString "__name__") (165:Nat)) (.str (.ofString "law_on0274_01") (1306:Nat))) :: (.mk (PyData.keyHash P (.ofString "__doc__")) (.str (.ofString "__doc__") (166:Nat)) .none) :: (.mk (PyData.keyHash P (.ofString "__package__")) (.str (.ofString "__package__") (167:Nat)) .none) :: (.mk (PyData.keyHash P (.ofString "__loader__")) (.str (.ofString "__loader__") (168:Nat)) (.builtin "__main__.__loader__#opaque")) :: (.mk (PyData.keyHash P (.ofString "__spec__")) (.str (.ofString "__spec__") (169:Nat)) .none) :: (.mk (PyData.keyHash P (.ofString "__annotations__")) (.str (.ofString "__annotations__") (170:Nat)) (.ref (6:Nat))) :: (.mk (PyData.keyHash P (.ofString "__builtins__")) (.str (.ofString "__builtins__") (171:Nat)) (.ref (4:Nat))) :: (.mk (PyData.keyHash P (.ofString "__file__")) (.str (.ofString "__file__") (173:Nat)) (.str (.ofString "/claim/cut.py") (172:Nat))) :: (.mk (PyData.keyHash P (.ofString "__cached__")) (.str (.ofString "__cached__") (174:Nat)) .none) :: (.mk (PyData.keyHash P (.ofString "_wall")) (.str (.ofString "_wall") (193:Nat)) (.ref (21:Nat))) :: (.mk (PyData.keyHash P (.ofString "RANDOM_FACTOR")) (.str (.ofString "RANDOM_FACTOR") (197:Nat)) (.int 16807 (196:Nat))) :: (.mk (PyData.keyHash P (.ofString "RANDOM_BASE")) (.str (.ofString "RANDOM_BASE") (203:Nat)) (.int 2147483647 (202:Nat))) :: (.mk (PyData.keyHash P (.ofString "Randoms")) (.str (.ofString "Randoms") (248:Nat)) (.ref (53:Nat))) :: (.mk (PyData.keyHash P (.ofString "GRAIN")) (.str (.ofString "GRAIN") (252:Nat)) (.int 1000000 (251:Nat))) :: (.mk (PyData.keyHash P (.ofString "PostError")) (.str (.ofString "PostError") (281:Nat)) (.ref (75:Nat))) :: (.mk (PyData.keyHash P (.ofString "PsError")) (.str (.ofString "PsError") (297:Nat)) (.ref (88:Nat))) :: (.mk (PyData.keyHash P (.ofString "Quit")) (.str (.ofString "Quit") (313:Nat)) (.ref (100:Nat))) :: (.mk (PyData.keyHash P (.ofString "BadText")) (.str (.ofString "BadText") (329:Nat)) (.ref (112:Nat))) :: (.mk (PyData.keyHash P (.ofString "octets_of")) (.str (.ofString "octets_of") (335:Nat)) (.ref (119:Nat))) :: (.mk (PyData.keyHash P (.ofString "RUN_ONLY")) (.str (.ofString "RUN_ONLY") (339:Nat)) (.int 1 (338:Nat))) :: (.mk (PyData.keyHash P (.ofString "READ_ONLY")) (.str (.ofString "READ_ONLY") (341:Nat)) (.int 2 (340:Nat))) :: (.mk (PyData.keyHash P (.ofString "UNLIMITED")) (.str (.ofString "UNLIMITED") (343:Nat)) (.int 3 (342:Nat))) :: (.mk (PyData.keyHash P (.ofString "Thing")) (.str (.ofString "Thing") (378:Nat)) (.ref (137:Nat))) :: (.mk (PyData.keyHash P (.ofString "Text")) (.str (.ofString "Text") (413:Nat)) (.ref (158:Nat))) :: (.mk (PyData.keyHash P (.ofString "Span")) (.str (.ofString "Span") (446:Nat)) (.ref (179:Nat))) :: (.mk (PyData.keyHash P (.ofString "integer")) (.str (.ofString "integer") (453:Nat)) (.ref (190:Nat))) :: (.mk (PyData.keyHash P (.ofString "boolean")) (.str (.ofString "boolean") (460:Nat)) (.ref (197:Nat))) :: (.mk (PyData.keyHash P (.ofString "name")) (.str (.ofString "name") (468:Nat)) (.ref (205:Nat))) :: (.mk (PyData.keyHash P (.ofString "is_number")) (.str (.ofString "is_number") (475:Nat)) (.ref (212:Nat))) :: (.mk (PyData.keyHash P (.ofString "in_millionths")) (.str (.ofString "in_millionths") (482:Nat)) (.ref (219:Nat))) :: (.mk (PyData.keyHash P (.ofString "is_in_array")) (.str (.ofString "is_in_array") (489:Nat)) (.ref (226:Nat))) :: (.mk (PyData.keyHash P (.ofString "access_of")) (.str (.ofString "access_of") (496:Nat)) (.ref (233:Nat))) :: (.mk (PyData.keyHash P (.ofString "can_read")) (.str (.ofString "can_read") (503:Nat)) (.ref (240:Nat))) :: (.mk (PyData.keyHash P (.ofString "can_run")) (.str (.ofString "can_run") (510:Nat)) (.ref (247:Nat))) :: (.mk (PyData.keyHash P (.ofString "check_part")) (.str (.ofString "check_part") (519:Nat)) (.ref (254:Nat))) :: (.mk (PyData.keyHash P (.ofString "part_of")) (.str (.ofString "part_of") (528:Nat)) (.ref (261:Nat))) :: (.mk (PyData.keyHash P (.ofString "with_span")) (.str (.ofString "with_span") (536:Nat)) (.ref (268:Nat))) :: (.mk (PyData.keyHash P (.ofString "is_text_span")) (.str (.ofString "is_text_span") (543:Nat)) (.ref (275:Nat))) :: (.mk (PyData.keyHash P (.ofString "item")) (.str (.ofString "item") (551:Nat)) (.ref (282:Nat))) :: (.mk (PyData.keyHash P (.ofString "octets_of_span")) (.str (.ofString "octets_of_span") (558:Nat)) (.ref (289:Nat))) :: (.mk (PyData.keyHash P (.ofString "thing_octets")) (.str (.ofString "thing_octets") (565:Nat)) (.ref (296:Nat))) :: (.mk (PyData.keyHash P (.ofString "key_of")) (.str (.ofString "key_of") (572:Nat)) (.ref (303:Nat))) :: (.mk (PyData.keyHash P (.ofString "OctetSource")) (.str (.ofString "OctetSource") (628:Nat)) (.ref (343:Nat))) :: (.mk (PyData.keyHash P (.ofString "FIRST_SEED")) (.str (.ofString "FIRST_SEED") (632:Nat)) (.int 1 (631:Nat))) :: (.mk (PyData.keyHash P (.ofString "Frame")) (.str (.ofString "Frame") (691:Nat)) (.ref (392:Nat))) :: (.mk (PyData.keyHash P (.ofString "ProcFrame")) (.str (.ofString "ProcFrame") (743:Nat)) (.ref (434:Nat))) :: (.mk (PyData.keyHash P (.ofString "SourceFrame")) (.str (.ofString "SourceFrame") (794:Nat)) (.ref (475:Nat))) :: (.mk (PyData.keyHash P (.ofString "ThingFrame")) (.str (.ofString "ThingFrame") (842:Nat)) (.ref (515:Nat))) :: (.mk (PyData.keyHash P (.ofString "machine_lookup")) (.str (.ofString "machine_lookup") (851:Nat)) (.ref (524:Nat))) :: (.mk (PyData.keyHash P (.ofString "MachineCore")) (.str (.ofString "MachineCore") (1132:Nat)) (.ref (719:Nat))) :: (.mk (PyData.keyHash P (.ofString "Stack")) (.str (.ofString "Stack") (1258:Nat)) (.ref (825:Nat))) :: (.mk (PyData.keyHash P (.ofString "need")) (.str (.ofString "need") (1266:Nat)) (.ref (836:Nat))) :: (.mk (PyData.keyHash P (.ofString "stack_pop_kind")) (.str (.ofString "stack_pop_kind") (1274:Nat)) (.ref (843:Nat))) :: (.mk (PyData.keyHash P (.ofString "pop_integer")) (.str (.ofString "pop_integer") (1281:Nat)) (.ref (850:Nat))) :: (.mk (PyData.keyHash P (.ofString "op_rand")) (.str (.ofString "op_rand") (1291:Nat)) (.ref (857:Nat))) :: (.mk (PyData.keyHash P (.ofString "op_srand")) (.str (.ofString "op_srand") (1298:Nat)) (.ref (864:Nat))) :: (.mk (PyData.keyHash P (.ofString "op_rrand")) (.str (.ofString "op_rrand") (1305:Nat)) (.ref (871:Nat))) :: (.mk (PyData.keyHash P (.ofString "_law_whole")) (.str (.ofString "_law_whole") (1309:Nat)) (.int 2147483647 (1308:Nat))) :: (.mk (PyData.keyHash P (.ofString "_law_deck")) (.str (.ofString "_law_deck") (1315:Nat)) (.ref (876:Nat))) :: (.mk (PyData.keyHash P (.ofString "_law_draw")) (.str (.ofString "_law_draw") (1325:Nat)) (.ref (883:Nat))) :: (.mk (PyData.keyHash P (.ofString "_law_next")) (.str (.ofString "_law_next") (1333:Nat)) (.ref (890:Nat))) :: (.mk (PyData.keyHash P (.ofString "_law_seeded")) (.str (.ofString "_law_seeded") (1340:Nat)) (.ref (897:Nat))) :: (.mk (PyData.keyHash P (.ofString "_law_far")) (.str (.ofString "_law_far") (1351:Nat)) (.ref (904:Nat))) :: (.mk (PyData.keyHash P (.ofString "law")) (.str (.ofString "law") (1369:Nat)) (.ref (911:Nat))) :: [])) (64:Nat)) #[])) ::
  (nat_lit 15, (.mk (.type "tuple") .none (.seq #[] (0:Nat)) #[])) ::
  (nat_lit 17, (.mk (.type "tuple") .none (.seq #[(.str (.ofString "k") (190:Nat))] (0:Nat)) #[])) ::
  (nat_lit 18, (.mk (.type "tuple") .none (.seq #[] (0:Nat)) #[])) ::
  (nat_lit 20, (.mk (.type "code") .none (.fields #[(.str (.ofString "_wall") (187:Nat)), (.str (.ofString "_wall") (188:Nat)), (.str (.ofString "/claim/cut.py") (189:Nat)), (.int 1 (0:Nat)), (.int 1 (0:Nat)), (.int 0 (0:Nat)), (.int 0 (0:Nat)), (.int 3 (0:Nat)), (.ref (15:Nat)), (.bool .true), (.int 181 (0:Nat)), (.ref (16:Nat)), .none, (.ref (17:Nat)), (.ref (18:Nat)), (.ref (19:Nat)), (.int 191 (0:Nat)), (.int 1 (0:Nat)), (.str (.ofString "/claim/cut.py") (192:Nat))]) #[])) ::
  (nat_lit 21, (fnO (s := st 0) rfl (.type "function") .none #[] (.ofString "_wall") (3:Nat) [] .none .none .none (.str (.ofString "__main__") (164:Nat)) .none (.ref (20:Nat)) .none (0:Nat))) ::
  (nat_lit 29, (.mk (.type "tuple") .none (.seq #[(.int 1 (216:Nat))] (0:Nat)) #[])) ::
  (nat_lit 30, (.mk (.type "tuple") .none (.seq #[] (0:Nat)) #[])) ::
  (nat_lit 32, (.mk (.type "tuple") .none (.seq #[(.str (.ofString "self") (220:Nat)), (.str (.ofString "start") (221:Nat))] (0:Nat)) #[])) ::
  (nat_lit 33, (.mk (.type "tuple") .none (.seq #[] (0:Nat)) #[])) ::
  (nat_lit 35, (.mk (.type "code") .none (.fields #[(.str (.ofString "__init__") (217:Nat)), (.str (.ofString "Randoms.__init__") (218:Nat)), (.str (.ofString "/claim/cut.py") (219:Nat)), (.int 9 (0:Nat)), (.int 2 (0:Nat)), (.int 0 (0:Nat)), (.int 0 (0:Nat)), (.int 3 (0:Nat)), (.ref (30:Nat)), (.bool .true), (.int 181 (0:Nat)), (.ref (31:Nat)), .none, (.ref (32:Nat)), (.ref (33:Nat)), (.ref (34:Nat)), (.int 222 (0:Nat)), (.int 9 (0:Nat)), (.str (.ofString "/claim/cut.py") (223:Nat))]) #[])) ::
  (nat_lit 36, (fnO (s := mt 4 0) rfl (.type "function") .none #[] (.ofString "Randoms.__init__") (3:Nat) [] (.ref (29:Nat)) .none .none (.str (.ofString "postcore.numbers") (194:Nat)) .none (.ref (35:Nat)) .none (0:Nat))) ::
  (nat_lit 37, (.mk (.type "tuple") .none (.seq #[] (0:Nat)) #[])) ::
  (nat_lit 39, (.mk (.type "tuple") .none (.seq #[(.str (.ofString "self") (228:Nat)), (.str (.ofString "number") (229:Nat))] (0:Nat)) #[])) ::
  (nat_lit 40, (.mk (.type "tuple") .none (.seq #[] (0:Nat)) #[])) ::
  (nat_lit 42, (.mk (.type "code") .none (.fields #[(.str (.ofString "seed") (225:Nat)), (.str (.ofString "Randoms.seed") (226:Nat)), (.str (.ofString "/claim/cut.py") (227:Nat)), (.int 13 (0:Nat)), (.int 2 (0:Nat)), (.int 0 (0:Nat)), (.int 0 (0:Nat)), (.int 3 (0:Nat)), (.ref (37:Nat)), (.bool .true), (.int 181 (0:Nat)), (.ref (38:Nat)), .none, (.ref (39:Nat)), (.ref (40:Nat)), (.ref (41:Nat)), (.int 230 (0:Nat)), (.int 13 (0:Nat)), (.str (.ofString "/claim/cut.py") (231:Nat))]) #[])) ::
  (nat_lit 43, (fnO (s := mt 4 1) rfl (.type "function") .none #[] (.ofString "Randoms.seed") (3:Nat) [] .none .none .none (.str (.ofString "postcore.numbers") (194:Nat)) .none (.ref (42:Nat)) .none (0:Nat))) ::
  (nat_lit 44, (.mk (.type "tuple") .none (.seq #[] (0:Nat)) #[])) ::
  (nat_lit 46, (.mk (.type "tuple") .none (.seq #[(.str (.ofString "self") (236:Nat))] (0:Nat)) #[])) ::
  (nat_lit 47, (.mk (.type "tuple") .none (.seq #[] (0:Nat)) #[])) ::
  (nat_lit 49, (.mk (.type "code") .none (.fields #[(.str (.ofString "next_number") (233:Nat)), (.str (.ofString "Randoms.next_number") (234:Nat)), (.str (.ofString "/claim/cut.py") (235:Nat)), (.int 18 (0:Nat)), (.int 1 (0:Nat)), (.int 0 (0:Nat)), (.int 0 (0:Nat)), (.int 3 (0:Nat)), (.ref (44:Nat)), (.bool .true), (.int 181 (0:Nat)), (.ref (45:Nat)), .none, (.ref (46:Nat)), (.ref (47:Nat)), (.ref (48:Nat)), (.int 237 (0:Nat)), (.int 18 (0:Nat)), (.str (.ofString "/claim/cut.py") (238:Nat))]) #[])) ::
  (nat_lit 50, (fnO (s := mt 4 2) rfl (.type "function") .none #[] (.ofString "Randoms.next_number") (3:Nat) [] .none .none .none (.str (.ofString "postcore.numbers") (194:Nat)) .none (.ref (49:Nat)) .none (0:Nat))) ::
  (nat_lit 51, (.mk (.type "tuple") .none (.seq #[(.str (.ofString "state") (240:Nat))] (0:Nat)) #[])) ::
  (nat_lit 52, (.mk (.type "dict") .none (.dict #[(.mk (PyData.keyHash P (.ofString "__module__")) (.str (.ofString "__module__") (211:Nat)) (.str (.ofString "postcore.numbers") (194:Nat))), (.mk (PyData.keyHash P (.ofString "__firstlineno__")) (.str (.ofString "__firstlineno__") (215:Nat)) (.int 7 (214:Nat))), (.mk (PyData.keyHash P (.ofString "__init__")) (.str (.ofString "__init__") (224:Nat)) (.ref (36:Nat))), (.mk (PyData.keyHash P (.ofString "seed")) (.str (.ofString "seed") (232:Nat)) (.ref (43:Nat))), (.mk (PyData.keyHash P (.ofString "next_number")) (.str (.ofString "next_number") (239:Nat)) (.ref (50:Nat))), (.mk (PyData.keyHash P (.ofString "__static_attributes__")) (.str (.ofString "__static_attributes__") (241:Nat)) (.ref (51:Nat))), (.mk (PyData.keyHash P (.ofString "__dict__")) (.str (.ofString "__dict__") (243:Nat)) (.ref (54:Nat))), (.mk (PyData.keyHash P (.ofString "__weakref__")) (.str (.ofString "__weakref__") (245:Nat)) (.ref (55:Nat))), (.mk (PyData.keyHash P (.ofString "__doc__")) (.str (.ofString "__doc__") (246:Nat)) .none)] (4:Nat)) #[])) ::
  (nat_lit 53, (.mk (.type "type") .none (.cls (.mk (.ofString "Randoms") [(.type "object")] [(.ref (53:Nat)), (.type "object")] (52:Nat) (.ofString "Randoms") .true [] [] .false .none .false)) #[.none, .none, (.some (.str (.ofString "Randoms") (204:Nat))), (.some (.str (.ofString "Randoms") (212:Nat))), (.some (.builtin "object.__new__")), (.some (.bool .true))])) ::
  (nat_lit 54, (.mk (.type "getset_descriptor") .none (.fields #[(.str (.ofString "__dict__") (242:Nat)), (.ref (53:Nat)), (.builtin "function.__dict__"), (.builtin "function.__dict__#set")]) #[])) ::
  (nat_lit 55, (.mk (.type "getset_descriptor") .none (.fields #[(.str (.ofString "__weakref__") (244:Nat)), (.ref (53:Nat)), (.builtin "ExceptionGroup.__weakref__"), .none]) #[])) ::
  (nat_lit 58, (.mk (.type "tuple") .none (.seq #[(.type "Exception")] (0:Nat)) #[])) ::
  (nat_lit 65, (.mk (.type "tuple") .none (.seq #[.none] (0:Nat)) #[])) ::
  (nat_lit 66, (.mk (.type "tuple") .none (.seq #[] (0:Nat)) #[])) ::
  (nat_lit 68, (.mk (.type "tuple") .none (.seq #[(.str (.ofString "self") (268:Nat)), (.str (.ofString "told") (269:Nat))] (0:Nat)) #[])) ::
  (nat_lit 69, (.mk (.type "tuple") .none (.seq #[] (0:Nat)) #[])) ::
  (nat_lit 71, (.mk (.type "code") .none (.fields #[(.str (.ofString "__init__") (265:Nat)), (.str (.ofString "PostError.__init__") (266:Nat)), (.str (.ofString "/claim/cut.py") (267:Nat)), (.int 25 (0:Nat)), (.int 2 (0:Nat)), (.int 0 (0:Nat)), (.int 0 (0:Nat)), (.int 3 (0:Nat)), (.ref (66:Nat)), (.bool .true), (.int 181 (0:Nat)), (.ref (67:Nat)), .none, (.ref (68:Nat)), (.ref (69:Nat)), (.ref (70:Nat)), (.int 270 (0:Nat)), (.int 25 (0:Nat)), (.str (.ofString "/claim/cut.py") (271:Nat))]) #[])) ::
  (nat_lit 72, (fnO (s := mt 7 0) rfl (.type "function") .none #[] (.ofString "PostError.__init__") (3:Nat) [] (.ref (65:Nat)) .none .none (.str (.ofString "postcore.base") (249:Nat)) .none (.ref (71:Nat)) .none (0:Nat))) ::
  (nat_lit 73, (.mk (.type "tuple") .none (.seq #[(.str (.ofString "told") (273:Nat))] (0:Nat)) #[])) ::
  (nat_lit 74, (.mk (.type "dict") .none (.dict #[(.mk (PyData.keyHash P (.ofString "__module__")) (.str (.ofString "__module__") (260:Nat)) (.str (.ofString "postcore.base") (249:Nat))), (.mk (PyData.keyHash P (.ofString "__firstlineno__")) (.str (.ofString "__firstlineno__") (264:Nat)) (.int 23 (263:Nat))), (.mk (PyData.keyHash P (.ofString "__init__")) (.str (.ofString "__init__") (272:Nat)) (.ref (72:Nat))), (.mk (PyData.keyHash P (.ofString "__static_attributes__")) (.str (.ofString "__static_attributes__") (274:Nat)) (.ref (73:Nat))), (.mk (PyData.keyHash P (.ofString "__weakref__")) (.str (.ofString "__weakref__") (276:Nat)) (.ref (76:Nat))), (.mk (PyData.keyHash P (.ofString "__doc__")) (.str (.ofString "__doc__") (277:Nat)) .none)] (3:Nat)) #[])) ::
  (nat_lit 75, (.mk (.type "type") .none (.cls (.mk (.ofString "PostError") [(.type "Exception")] [(.ref (75:Nat)), (.type "Exception"), (.type "BaseException"), (.type "object")] (74:Nat) (.ofString "PostError") .true [] [(.ref (88:Nat)), (.ref (100:Nat)), (.ref (112:Nat))] .false .none .false)) #[(.some (.ref (58:Nat))), .none, (.some (.str (.ofString "PostError") (253:Nat))), (.some (.str (.ofString "PostError") (261:Nat))), (.some (.builtin "Exception.__new__")), (.some (.bool .true))])) ::
  (nat_lit 76, (.mk (.type "getset_descriptor") .none (.fields #[(.str (.ofString "__weakref__") (275:Nat)), (.ref (75:Nat)), (.builtin "ExceptionGroup.__weakref__"), .none]) #[])) ::
  (nat_lit 79, (.mk (.type "tuple") .none (.seq #[(.ref (75:Nat))] (0:Nat)) #[])) ::
  (nat_lit 86, (.mk (.type "tuple") .none (.seq #[] (0:Nat)) #[])) ::
  (nat_lit 87, (.mk (.type "dict") .none (.dict #[(.mk (PyData.keyHash P (.ofString "__module__")) (.str (.ofString "__module__") (289:Nat)) (.str (.ofString "postcore.base") (249:Nat))), (.mk (PyData.keyHash P (.ofString "__firstlineno__")) (.str (.ofString "__firstlineno__") (293:Nat)) (.int 27 (292:Nat))), (.mk (PyData.keyHash P (.ofString "__static_attributes__")) (.str (.ofString "__static_attributes__") (294:Nat)) (.ref (86:Nat))), (.mk (PyData.keyHash P (.ofString "__doc__")) (.str (.ofString "__doc__") (295:Nat)) .none)] (2:Nat)) #[])) ::
  (nat_lit 88, (.mk (.type "type") .none (.cls (.mk (.ofString "PsError") [(.ref (75:Nat))] [(.ref (88:Nat)), (.ref (75:Nat)), (.type "Exception"), (.type "BaseException"), (.type "object")] (87:Nat) (.ofString "PsError") .true [] [] .false .none .false)) #[(.some (.ref (79:Nat))), .none, (.some (.str (.ofString "PsError") (282:Nat))), (.some (.str (.ofString "PsError") (290:Nat))), (.some (.builtin "Exception.__new__")), (.some (.bool .true))])) ::
  (nat_lit 91, (.mk (.type "tuple") .none (.seq #[(.ref (75:Nat))] (0:Nat)) #[])) ::
  (nat_lit 98, (.mk (.type "tuple") .none (.seq #[] (0:Nat)) #[])) ::
  (nat_lit 99, (.mk (.type "dict") .none (.dict #[(.mk (PyData.keyHash P (.ofString "__module__")) (.str (.ofString "__module__") (305:Nat)) (.str (.ofString "postcore.base") (249:Nat))), (.mk (PyData.keyHash P (.ofString "__firstlineno__")) (.str (.ofString "__firstlineno__") (309:Nat)) (.int 29 (308:Nat))), (.mk (PyData.keyHash P (.ofString "__static_attributes__")) (.str (.ofString "__static_attributes__") (310:Nat)) (.ref (98:Nat))), (.mk (PyData.keyHash P (.ofString "__doc__")) (.str (.ofString "__doc__") (311:Nat)) .none)] (2:Nat)) #[])) ::
  (nat_lit 100, (.mk (.type "type") .none (.cls (.mk (.ofString "Quit") [(.ref (75:Nat))] [(.ref (100:Nat)), (.ref (75:Nat)), (.type "Exception"), (.type "BaseException"), (.type "object")] (99:Nat) (.ofString "Quit") .true [] [] .false .none .false)) #[(.some (.ref (91:Nat))), .none, (.some (.str (.ofString "Quit") (298:Nat))), (.some (.str (.ofString "Quit") (306:Nat))), (.some (.builtin "Exception.__new__")), (.some (.bool .true))])) ::
  (nat_lit 103, (.mk (.type "tuple") .none (.seq #[(.ref (75:Nat))] (0:Nat)) #[])) ::
  (nat_lit 110, (.mk (.type "tuple") .none (.seq #[] (0:Nat)) #[])) ::
  (nat_lit 111, (.mk (.type "dict") .none (.dict #[(.mk (PyData.keyHash P (.ofString "__module__")) (.str (.ofString "__module__") (321:Nat)) (.str (.ofString "postcore.base") (249:Nat))), (.mk (PyData.keyHash P (.ofString "__firstlineno__")) (.str (.ofString "__firstlineno__") (325:Nat)) (.int 31 (324:Nat))), (.mk (PyData.keyHash P (.ofString "__static_attributes__")) (.str (.ofString "__static_attributes__") (326:Nat)) (.ref (110:Nat))), (.mk (PyData.keyHash P (.ofString "__doc__")) (.str (.ofString "__doc__") (327:Nat)) .none)] (2:Nat)) #[])) ::
  (nat_lit 112, (.mk (.type "type") .none (.cls (.mk (.ofString "BadText") [(.ref (75:Nat))] [(.ref (112:Nat)), (.ref (75:Nat)), (.type "Exception"), (.type "BaseException"), (.type "object")] (111:Nat) (.ofString "BadText") .true [] [] .false .none .false)) #[(.some (.ref (103:Nat))), .none, (.some (.str (.ofString "BadText") (314:Nat))), (.some (.str (.ofString "BadText") (322:Nat))), (.some (.builtin "Exception.__new__")), (.some (.bool .true))])) ::
  (nat_lit 115, (.mk (.type "tuple") .none (.seq #[] (0:Nat)) #[])) ::
  (nat_lit 118, (.mk (.type "code") .none (.fields #[(.str (.ofString "octets_of") (330:Nat)), (.str (.ofString "octets_of") (331:Nat)), (.str (.ofString "/claim/cut.py") (332:Nat)), (.int 33 (0:Nat)), (.int 1 (0:Nat)), (.int 0 (0:Nat)), (.int 0 (0:Nat)), (.int 3 (0:Nat)), (.ref (115:Nat)), (.bool .true), (.int 181 (0:Nat)), (.ref (116:Nat)), .none, .none, .none, (.ref (117:Nat)), (.int 333 (0:Nat)), (.int 33 (0:Nat)), (.str (.ofString "/claim/cut.py") (334:Nat))]) #[])) ::
  (nat_lit 119, (fnO (s := st 11) rfl (.type "function") .none #[] (.ofString "octets_of") (3:Nat) [] .none .none .none (.str (.ofString "postcore.base") (249:Nat)) .none (.ref (118:Nat)) .none (0:Nat))) ::
  (nat_lit 127, (.mk (.type "tuple") .none (.seq #[(.bool .false), (.int 3 (342:Nat))] (0:Nat)) #[])) ::
  (nat_lit 128, (.mk (.type "tuple") .none (.seq #[] (0:Nat)) #[])) ::
  (nat_lit 130, (.mk (.type "tuple") .none (.seq #[(.str (.ofString "self") (359:Nat)), (.str (.ofString "kind") (360:Nat)), (.str (.ofString "value") (361:Nat)), (.str (.ofString "is_exec") (362:Nat)), (.str (.ofString "access") (363:Nat))] (0:Nat)) #[])) ::
  (nat_lit 131, (.mk (.type "tuple") .none (.seq #[] (0:Nat)) #[])) ::
  (nat_lit 133, (.mk (.type "code") .none (.fields #[(.str (.ofString "__init__") (356:Nat)), (.str (.ofString "Thing.__init__") (357:Nat)), (.str (.ofString "/claim/cut.py") (358:Nat)), (.int 45 (0:Nat)), (.int 5 (0:Nat)), (.int 0 (0:Nat)), (.int 0 (0:Nat)), (.int 3 (0:Nat)), (.ref (128:Nat)), (.bool .true), (.int 181 (0:Nat)), (.ref (129:Nat)), .none, (.ref (130:Nat)), (.ref (131:Nat)), (.ref (132:Nat)), (.int 364 (0:Nat)), (.int 45 (0:Nat)), (.str (.ofString "/claim/cut.py") (365:Nat))]) #[])) ::
  (nat_lit 134, (fnO (s := mt 16 0) rfl (.type "function") .none #[] (.ofString "Thing.__init__") (3:Nat) [] (.ref (127:Nat)) .none .none (.str (.ofString "postcore.objects") (336:Nat)) .none (.ref (133:Nat)) .none (0:Nat))) ::
  (nat_lit 135, (.mk (.type "tuple") .none (.seq #[(.str (.ofString "access") (367:Nat)), (.str (.ofString "is_exec") (368:Nat)), (.str (.ofString "kind") (369:Nat)), (.str (.ofString "value") (370:Nat))] (0:Nat)) #[])) ::
  (nat_lit 136, (.mk (.type "dict") .none (.dict #[(.mk (PyData.keyHash P (.ofString "__module__")) (.str (.ofString "__module__") (351:Nat)) (.str (.ofString "postcore.objects") (336:Nat))), (.mk (PyData.keyHash P (.ofString "__firstlineno__")) (.str (.ofString "__firstlineno__") (355:Nat)) (.int 43 (354:Nat))), (.mk (PyData.keyHash P (.ofString "__init__")) (.str (.ofString "__init__") (366:Nat)) (.ref (134:Nat))), (.mk (PyData.keyHash P (.ofString "__static_attributes__")) (.str (.ofString "__static_attributes__") (371:Nat)) (.ref (135:Nat))), (.mk (PyData.keyHash P (.ofString "__dict__")) (.str (.ofString "__dict__") (373:Nat)) (.ref (138:Nat))), (.mk (PyData.keyHash P (.ofString "__weakref__")) (.str (.ofString "__weakref__") (375:Nat)) (.ref (139:Nat))), (.mk (PyData.keyHash P (.ofString "__doc__")) (.str (.ofString "__doc__") (376:Nat)) .none)] (4:Nat)) #[])) ::
  (nat_lit 137, (.mk (.type "type") .none (.cls (.mk (.ofString "Thing") [(.type "object")] [(.ref (137:Nat)), (.type "object")] (136:Nat) (.ofString "Thing") .true [] [] .false .none .false)) #[.none, .none, (.some (.str (.ofString "Thing") (344:Nat))), (.some (.str (.ofString "Thing") (352:Nat))), (.some (.builtin "object.__new__")), (.some (.bool .true))])) ::
  (nat_lit 138, (.mk (.type "getset_descriptor") .none (.fields #[(.str (.ofString "__dict__") (372:Nat)), (.ref (137:Nat)), (.builtin "function.__dict__"), (.builtin "function.__dict__#set")]) #[])) ::
  (nat_lit 139, (.mk (.type "getset_descriptor") .none (.fields #[(.str (.ofString "__weakref__") (374:Nat)), (.ref (137:Nat)), (.builtin "ExceptionGroup.__weakref__"), .none]) #[])) ::
  (nat_lit 149, (.mk (.type "tuple") .none (.seq #[] (0:Nat)) #[])) ::
  (nat_lit 151, (.mk (.type "tuple") .none (.seq #[(.str (.ofString "self") (394:Nat)), (.str (.ofString "number") (395:Nat)), (.str (.ofString "octets") (396:Nat)), (.str (.ofString "is_global") (397:Nat)), (.str (.ofString "level") (398:Nat))] (0:Nat)) #[])) ::
  (nat_lit 152, (.mk (.type "tuple") .none (.seq #[] (0:Nat)) #[])) ::
  (nat_lit 154, (.mk (.type "code") .none (.fields #[(.str (.ofString "__init__") (391:Nat)), (.str (.ofString "Text.__init__") (392:Nat)), (.str (.ofString "/claim/cut.py") (393:Nat)), (.int 52 (0:Nat)), (.int 5 (0:Nat)), (.int 0 (0:Nat)), (.int 0 (0:Nat)), (.int 3 (0:Nat)), (.ref (149:Nat)), (.bool .true), (.int 181 (0:Nat)), (.ref (150:Nat)), .none, (.ref (151:Nat)), (.ref (152:Nat)), (.ref (153:Nat)), (.int 399 (0:Nat)), (.int 52 (0:Nat)), (.str (.ofString "/claim/cut.py") (400:Nat))]) #[])) ::
  (nat_lit 155, (fnO (s := mt 17 0) rfl (.type "function") .none #[] (.ofString "Text.__init__") (3:Nat) [] .none .none .none (.str (.ofString "postcore.objects") (336:Nat)) .none (.ref (154:Nat)) .none (0:Nat))) ::
  (nat_lit 156, (.mk (.type "tuple") .none (.seq #[(.str (.ofString "is_global") (402:Nat)), (.str (.ofString "level") (403:Nat)), (.str (.ofString "number") (404:Nat)), (.str (.ofString "octets") (405:Nat))] (0:Nat)) #[])) ::
  (nat_lit 157, (.mk (.type "dict") .none (.dict #[(.mk (PyData.keyHash P (.ofString "__module__")) (.str (.ofString "__module__") (386:Nat)) (.str (.ofString "postcore.objects") (336:Nat))), (.mk (PyData.keyHash P (.ofString "__firstlineno__")) (.str (.ofString "__firstlineno__") (390:Nat)) (.int 50 (389:Nat))), (.mk (PyData.keyHash P (.ofString "__init__")) (.str (.ofString "__init__") (401:Nat)) (.ref (155:Nat))), (.mk (PyData.keyHash P (.ofString "__static_attributes__")) (.str (.ofString "__static_attributes__") (406:Nat)) (.ref (156:Nat))), (.mk (PyData.keyHash P (.ofString "__dict__")) (.str (.ofString "__dict__") (408:Nat)) (.ref (159:Nat))), (.mk (PyData.keyHash P (.ofString "__weakref__")) (.str (.ofString "__weakref__") (410:Nat)) (.ref (160:Nat))), (.mk (PyData.keyHash P (.ofString "__doc__")) (.str (.ofString "__doc__") (411:Nat)) .none)] (4:Nat)) #[])) ::
  (nat_lit 158, (.mk (.type "type") .none (.cls (.mk (.ofString "Text") [(.type "object")] [(.ref (158:Nat)), (.type "object")] (157:Nat) (.ofString "Text") .true [] [] .false .none .false)) #[.none, .none, (.some (.str (.ofString "Text") (379:Nat))), (.some (.str (.ofString "Text") (387:Nat))), (.some (.builtin "object.__new__")), (.some (.bool .true))])) ::
  (nat_lit 159, (.mk (.type "getset_descriptor") .none (.fields #[(.str (.ofString "__dict__") (407:Nat)), (.ref (158:Nat)), (.builtin "function.__dict__"), (.builtin "function.__dict__#set")]) #[])) ::
  (nat_lit 160, (.mk (.type "getset_descriptor") .none (.fields #[(.str (.ofString "__weakref__") (409:Nat)), (.ref (158:Nat)), (.builtin "ExceptionGroup.__weakref__"), .none]) #[])) ::
  (nat_lit 170, (.mk (.type "tuple") .none (.seq #[] (0:Nat)) #[])) ::
  (nat_lit 172, (.mk (.type "tuple") .none (.seq #[(.str (.ofString "self") (429:Nat)), (.str (.ofString "body") (430:Nat)), (.str (.ofString "start") (431:Nat)), (.str (.ofString "many") (432:Nat))] (0:Nat)) #[])) ::
  (nat_lit 173, (.mk (.type "tuple") .none (.seq #[] (0:Nat)) #[])) ::
  (nat_lit 175, (.mk (.type "code") .none (.fields #[(.str (.ofString "__init__") (426:Nat)), (.str (.ofString "Span.__init__") (427:Nat)), (.str (.ofString "/claim/cut.py") (428:Nat)), (.int 59 (0:Nat)), (.int 4 (0:Nat)), (.int 0 (0:Nat)), (.int 0 (0:Nat)), (.int 3 (0:Nat)), (.ref (170:Nat)), (.bool .true), (.int 181 (0:Nat)), (.ref (171:Nat)), .none, (.ref (172:Nat)), (.ref (173:Nat)), (.ref (174:Nat)), (.int 433 (0:Nat)), (.int 59 (0:Nat)), (.str (.ofString "/claim/cut.py") (434:Nat))]) #[])) ::
  (nat_lit 176, (fnO (s := mt 18 0) rfl (.type "function") .none #[] (.ofString "Span.__init__") (3:Nat) [] .none .none .none (.str (.ofString "postcore.objects") (336:Nat)) .none (.ref (175:Nat)) .none (0:Nat))) ::
  (nat_lit 177, (.mk (.type "tuple") .none (.seq #[(.str (.ofString "body") (436:Nat)), (.str (.ofString "many") (437:Nat)), (.str (.ofString "start") (438:Nat))] (0:Nat)) #[])) ::
  (nat_lit 178, (.mk (.type "dict") .none (.dict #[(.mk (PyData.keyHash P (.ofString "__module__")) (.str (.ofString "__module__") (421:Nat)) (.str (.ofString "postcore.objects") (336:Nat))), (.mk (PyData.keyHash P (.ofString "__firstlineno__")) (.str (.ofString "__firstlineno__") (425:Nat)) (.int 57 (424:Nat))), (.mk (PyData.keyHash P (.ofString "__init__")) (.str (.ofString "__init__") (435:Nat)) (.ref (176:Nat))), (.mk (PyData.keyHash P (.ofString "__static_attributes__")) (.str (.ofString "__static_attributes__") (439:Nat)) (.ref (177:Nat))), (.mk (PyData.keyHash P (.ofString "__dict__")) (.str (.ofString "__dict__") (441:Nat)) (.ref (180:Nat))), (.mk (PyData.keyHash P (.ofString "__weakref__")) (.str (.ofString "__weakref__") (443:Nat)) (.ref (181:Nat))), (.mk (PyData.keyHash P (.ofString "__doc__")) (.str (.ofString "__doc__") (444:Nat)) .none)] (4:Nat)) #[])) ::
  (nat_lit 179, (.mk (.type "type") .none (.cls (.mk (.ofString "Span") [(.type "object")] [(.ref (179:Nat)), (.type "object")] (178:Nat) (.ofString "Span") .true [] [] .false .none .false)) #[.none, .none, (.some (.str (.ofString "Span") (414:Nat))), (.some (.str (.ofString "Span") (422:Nat))), (.some (.builtin "object.__new__")), (.some (.bool .true))])) ::
  (nat_lit 180, (.mk (.type "getset_descriptor") .none (.fields #[(.str (.ofString "__dict__") (440:Nat)), (.ref (179:Nat)), (.builtin "function.__dict__"), (.builtin "function.__dict__#set")]) #[])) ::
  (nat_lit 181, (.mk (.type "getset_descriptor") .none (.fields #[(.str (.ofString "__weakref__") (442:Nat)), (.ref (179:Nat)), (.builtin "ExceptionGroup.__weakref__"), .none]) #[])) ::
  (nat_lit 184, (.mk (.type "tuple") .none (.seq #[] (0:Nat)) #[])) ::
  (nat_lit 186, (.mk (.type "tuple") .none (.seq #[(.str (.ofString "number") (450:Nat))] (0:Nat)) #[])) ::
  (nat_lit 187, (.mk (.type "tuple") .none (.seq #[] (0:Nat)) #[])) ::
  (nat_lit 189, (.mk (.type "code") .none (.fields #[(.str (.ofString "integer") (447:Nat)), (.str (.ofString "integer") (448:Nat)), (.str (.ofString "/claim/cut.py") (449:Nat)), (.int 63 (0:Nat)), (.int 1 (0:Nat)), (.int 0 (0:Nat)), (.int 0 (0:Nat)), (.int 3 (0:Nat)), (.ref (184:Nat)), (.bool .true), (.int 181 (0:Nat)), (.ref (185:Nat)), .none, (.ref (186:Nat)), (.ref (187:Nat)), (.ref (188:Nat)), (.int 451 (0:Nat)), (.int 63 (0:Nat)), (.str (.ofString "/claim/cut.py") (452:Nat))]) #[])) ::
  (nat_lit 190, (fnO (s := st 19) rfl (.type "function") .none #[] (.ofString "integer") (3:Nat) [] .none .none .none (.str (.ofString "postcore.objects") (336:Nat)) .none (.ref (189:Nat)) .none (0:Nat))) ::
  (nat_lit 191, (.mk (.type "tuple") .none (.seq #[] (0:Nat)) #[])) ::
  (nat_lit 193, (.mk (.type "tuple") .none (.seq #[(.str (.ofString "truth") (457:Nat))] (0:Nat)) #[])) ::
  (nat_lit 194, (.mk (.type "tuple") .none (.seq #[] (0:Nat)) #[])) ::
  (nat_lit 196, (.mk (.type "code") .none (.fields #[(.str (.ofString "boolean") (454:Nat)), (.str (.ofString "boolean") (455:Nat)), (.str (.ofString "/claim/cut.py") (456:Nat)), (.int 65 (0:Nat)), (.int 1 (0:Nat)), (.int 0 (0:Nat)), (.int 0 (0:Nat)), (.int 3 (0:Nat)), (.ref (191:Nat)), (.bool .true), (.int 181 (0:Nat)), (.ref (192:Nat)), .none, (.ref (193:Nat)), (.ref (194:Nat)), (.ref (195:Nat)), (.int 458 (0:Nat)), (.int 65 (0:Nat)), (.str (.ofString "/claim/cut.py") (459:Nat))]) #[])) ::
  (nat_lit 197, (fnO (s := st 20) rfl (.type "function") .none #[] (.ofString "boolean") (3:Nat) [] .none .none .none (.str (.ofString "postcore.objects") (336:Nat)) .none (.ref (196:Nat)) .none (0:Nat))) ::
  (nat_lit 198, (.mk (.type "tuple") .none (.seq #[(.bool .false)] (0:Nat)) #[])) ::
  (nat_lit 199, (.mk (.type "tuple") .none (.seq #[] (0:Nat)) #[])) ::
  (nat_lit 201, (.mk (.type "tuple") .none (.seq #[(.str (.ofString "octets") (464:Nat)), (.str (.ofString "is_exec") (465:Nat))] (0:Nat)) #[])) ::
  (nat_lit 202, (.mk (.type "tuple") .none (.seq #[] (0:Nat)) #[])) ::
  (nat_lit 204, (.mk (.type "code") .none (.fields #[(.str (.ofString "name") (461:Nat)), (.str (.ofString "name") (462:Nat)), (.str (.ofString "/claim/cut.py") (463:Nat)), (.int 67 (0:Nat)), (.int 2 (0:Nat)), (.int 0 (0:Nat)), (.int 0 (0:Nat)), (.int 3 (0:Nat)), (.ref (199:Nat)), (.bool .true), (.int 181 (0:Nat)), (.ref (200:Nat)), .none, (.ref (201:Nat)), (.ref (202:Nat)), (.ref (203:Nat)), (.int 466 (0:Nat)), (.int 67 (0:Nat)), (.str (.ofString "/claim/cut.py") (467:Nat))]) #[])) ::
  (nat_lit 205, (fnO (s := st 21) rfl (.type "function") .none #[] (.ofString "name") (3:Nat) [] (.ref (198:Nat)) .none .none (.str (.ofString "postcore.objects") (336:Nat)) .none (.ref (204:Nat)) .none (0:Nat))) ::
  (nat_lit 206, (.mk (.type "tuple") .none (.seq #[] (0:Nat)) #[])) ::
  (nat_lit 208, (.mk (.type "tuple") .none (.seq #[(.str (.ofString "thing") (472:Nat))] (0:Nat)) #[])) ::
  (nat_lit 209, (.mk (.type "tuple") .none (.seq #[] (0:Nat)) #[])) ::
  (nat_lit 211, (.mk (.type "code") .none (.fields #[(.str (.ofString "is_number") (469:Nat)), (.str (.ofString "is_number") (470:Nat)), (.str (.ofString "/claim/cut.py") (471:Nat)), (.int 69 (0:Nat)), (.int 1 (0:Nat)), (.int 0 (0:Nat)), (.int 0 (0:Nat)), (.int 3 (0:Nat)), (.ref (206:Nat)), (.bool .true), (.int 181 (0:Nat)), (.ref (207:Nat)), .none, (.ref (208:Nat)), (.ref (209:Nat)), (.ref (210:Nat)), (.int 473 (0:Nat)), (.int 69 (0:Nat)), (.str (.ofString "/claim/cut.py") (474:Nat))]) #[])) ::
  (nat_lit 212, (fnO (s := st 22) rfl (.type "function") .none #[] (.ofString "is_number") (3:Nat) [] .none .none .none (.str (.ofString "postcore.objects") (336:Nat)) .none (.ref (211:Nat)) .none (0:Nat))) ::
  (nat_lit 213, (.mk (.type "tuple") .none (.seq #[] (0:Nat)) #[])) ::
  (nat_lit 215, (.mk (.type "tuple") .none (.seq #[(.str (.ofString "thing") (479:Nat))] (0:Nat)) #[])) ::
  (nat_lit 216, (.mk (.type "tuple") .none (.seq #[] (0:Nat)) #[])) ::
  (nat_lit 218, (.mk (.type "code") .none (.fields #[(.str (.ofString "in_millionths") (476:Nat)), (.str (.ofString "in_millionths") (477:Nat)), (.str (.ofString "/claim/cut.py") (478:Nat)), (.int 71 (0:Nat)), (.int 1 (0:Nat)), (.int 0 (0:Nat)), (.int 0 (0:Nat)), (.int 3 (0:Nat)), (.ref (213:Nat)), (.bool .true), (.int 181 (0:Nat)), (.ref (214:Nat)), .none, (.ref (215:Nat)), (.ref (216:Nat)), (.ref (217:Nat)), (.int 480 (0:Nat)), (.int 71 (0:Nat)), (.str (.ofString "/claim/cut.py") (481:Nat))]) #[])) ::
  (nat_lit 219, (fnO (s := st 23) rfl (.type "function") .none #[] (.ofString "in_millionths") (3:Nat) [] .none .none .none (.str (.ofString "postcore.objects") (336:Nat)) .none (.ref (218:Nat)) .none (0:Nat))) ::
  (nat_lit 220, (.mk (.type "tuple") .none (.seq #[] (0:Nat)) #[])) ::
  (nat_lit 222, (.mk (.type "tuple") .none (.seq #[(.str (.ofString "thing") (486:Nat))] (0:Nat)) #[])) ::
  (nat_lit 223, (.mk (.type "tuple") .none (.seq #[] (0:Nat)) #[])) ::
  (nat_lit 225, (.mk (.type "code") .none (.fields #[(.str (.ofString "is_in_array") (483:Nat)), (.str (.ofString "is_in_array") (484:Nat)), (.str (.ofString "/claim/cut.py") (485:Nat)), (.int 77 (0:Nat)), (.int 1 (0:Nat)), (.int 0 (0:Nat)), (.int 0 (0:Nat)), (.int 3 (0:Nat)), (.ref (220:Nat)), (.bool .true), (.int 181 (0:Nat)), (.ref (221:Nat)), .none, (.ref (222:Nat)), (.ref (223:Nat)), (.ref (224:Nat)), (.int 487 (0:Nat)), (.int 77 (0:Nat)), (.str (.ofString "/claim/cut.py") (488:Nat))]) #[])) ::
  (nat_lit 226, (fnO (s := st 24) rfl (.type "function") .none #[] (.ofString "is_in_array") (3:Nat) [] .none .none .none (.str (.ofString "postcore.objects") (336:Nat)) .none (.ref (225:Nat)) .none (0:Nat))) ::
  (nat_lit 227, (.mk (.type "tuple") .none (.seq #[] (0:Nat)) #[])) ::
  (nat_lit 229, (.mk (.type "tuple") .none (.seq #[(.str (.ofString "thing") (493:Nat))] (0:Nat)) #[])) ::
  (nat_lit 230, (.mk (.type "tuple") .none (.seq #[] (0:Nat)) #[])) ::
  (nat_lit 232, (.mk (.type "code") .none (.fields #[(.str (.ofString "access_of") (490:Nat)), (.str (.ofString "access_of") (491:Nat)), (.str (.ofString "/claim/cut.py") (492:Nat)), (.int 79 (0:Nat)), (.int 1 (0:Nat)), (.int 0 (0:Nat)), (.int 0 (0:Nat)), (.int 3 (0:Nat)), (.ref (227:Nat)), (.bool .true), (.int 181 (0:Nat)), (.ref (228:Nat)), .none, (.ref (229:Nat)), (.ref (230:Nat)), (.ref (231:Nat)), (.int 494 (0:Nat)), (.int 79 (0:Nat)), (.str (.ofString "/claim/cut.py") (495:Nat))]) #[])) ::
  (nat_lit 233, (fnO (s := st 25) rfl (.type "function") .none #[] (.ofString "access_of") (3:Nat) [] .none .none .none (.str (.ofString "postcore.objects") (336:Nat)) .none (.ref (232:Nat)) .none (0:Nat))) ::
  (nat_lit 234, (.mk (.type "tuple") .none (.seq #[] (0:Nat)) #[])) ::
  (nat_lit 236, (.mk (.type "tuple") .none (.seq #[(.str (.ofString "thing") (500:Nat))] (0:Nat)) #[])) ::
  (nat_lit 237, (.mk (.type "tuple") .none (.seq #[] (0:Nat)) #[])) ::
  (nat_lit 239, (.mk (.type "code") .none (.fields #[(.str (.ofString "can_read") (497:Nat)), (.str (.ofString "can_read") (498:Nat)), (.str (.ofString "/claim/cut.py") (499:Nat)), (.int 81 (0:Nat)), (.int 1 (0:Nat)), (.int 0 (0:Nat)), (.int 0 (0:Nat)), (.int 3 (0:Nat)), (.ref (234:Nat)), (.bool .true), (.int 181 (0:Nat)), (.ref (235:Nat)), .none, (.ref (236:Nat)), (.ref (237:Nat)), (.ref (238:Nat)), (.int 501 (0:Nat)), (.int 81 (0:Nat)), (.str (.ofString "/claim/cut.py") (502:Nat))]) #[])) ::
  (nat_lit 240, (fnO (s := st 26) rfl (.type "function") .none #[] (.ofString "can_read") (3:Nat) [] .none .none .none (.str (.ofString "postcore.objects") (336:Nat)) .none (.ref (239:Nat)) .none (0:Nat))) ::
  (nat_lit 241, (.mk (.type "tuple") .none (.seq #[] (0:Nat)) #[])) ::
  (nat_lit 243, (.mk (.type "tuple") .none (.seq #[(.str (.ofString "thing") (507:Nat))] (0:Nat)) #[])) ::
  (nat_lit 244, (.mk (.type "tuple") .none (.seq #[] (0:Nat)) #[])) ::
  (nat_lit 246, (.mk (.type "code") .none (.fields #[(.str (.ofString "can_run") (504:Nat)), (.str (.ofString "can_run") (505:Nat)), (.str (.ofString "/claim/cut.py") (506:Nat)), (.int 83 (0:Nat)), (.int 1 (0:Nat)), (.int 0 (0:Nat)), (.int 0 (0:Nat)), (.int 3 (0:Nat)), (.ref (241:Nat)), (.bool .true), (.int 181 (0:Nat)), (.ref (242:Nat)), .none, (.ref (243:Nat)), (.ref (244:Nat)), (.ref (245:Nat)), (.int 508 (0:Nat)), (.int 83 (0:Nat)), (.str (.ofString "/claim/cut.py") (509:Nat))]) #[])) ::
  (nat_lit 247, (fnO (s := st 27) rfl (.type "function") .none #[] (.ofString "can_run") (3:Nat) [] .none .none .none (.str (.ofString "postcore.objects") (336:Nat)) .none (.ref (246:Nat)) .none (0:Nat))) ::
  (nat_lit 248, (.mk (.type "tuple") .none (.seq #[] (0:Nat)) #[])) ::
  (nat_lit 250, (.mk (.type "tuple") .none (.seq #[(.str (.ofString "span") (514:Nat)), (.str (.ofString "start") (515:Nat)), (.str (.ofString "many") (516:Nat))] (0:Nat)) #[])) ::
  (nat_lit 251, (.mk (.type "tuple") .none (.seq #[] (0:Nat)) #[])) ::
  (nat_lit 253, (.mk (.type "code") .none (.fields #[(.str (.ofString "check_part") (511:Nat)), (.str (.ofString "check_part") (512:Nat)), (.str (.ofString "/claim/cut.py") (513:Nat)), (.int 85 (0:Nat)), (.int 3 (0:Nat)), (.int 0 (0:Nat)), (.int 0 (0:Nat)), (.int 3 (0:Nat)), (.ref (248:Nat)), (.bool .true), (.int 181 (0:Nat)), (.ref (249:Nat)), .none, (.ref (250:Nat)), (.ref (251:Nat)), (.ref (252:Nat)), (.int 517 (0:Nat)), (.int 85 (0:Nat)), (.str (.ofString "/claim/cut.py") (518:Nat))]) #[])) ::
  (nat_lit 254, (fnO (s := st 28) rfl (.type "function") .none #[] (.ofString "check_part") (3:Nat) [] .none .none .none (.str (.ofString "postcore.objects") (336:Nat)) .none (.ref (253:Nat)) .none (0:Nat))) ::
  (nat_lit 255, (.mk (.type "tuple") .none (.seq #[] (0:Nat)) #[])) ::
  (nat_lit 257, (.mk (.type "tuple") .none (.seq #[(.str (.ofString "span") (523:Nat)), (.str (.ofString "start") (524:Nat)), (.str (.ofString "many") (525:Nat))] (0:Nat)) #[])) ::
  (nat_lit 258, (.mk (.type "tuple") .none (.seq #[] (0:Nat)) #[])) ::
  (nat_lit 260, (.mk (.type "code") .none (.fields #[(.str (.ofString "part_of") (520:Nat)), (.str (.ofString "part_of") (521:Nat)), (.str (.ofString "/claim/cut.py") (522:Nat)), (.int 88 (0:Nat)), (.int 3 (0:Nat)), (.int 0 (0:Nat)), (.int 0 (0:Nat)), (.int 3 (0:Nat)), (.ref (255:Nat)), (.bool .true), (.int 181 (0:Nat)), (.ref (256:Nat)), .none, (.ref (257:Nat)), (.ref (258:Nat)), (.ref (259:Nat)), (.int 526 (0:Nat)), (.int 88 (0:Nat)), (.str (.ofString "/claim/cut.py") (527:Nat))]) #[])) ::
  (nat_lit 261, (fnO (s := st 29) rfl (.type "function") .none #[] (.ofString "part_of") (3:Nat) [] .none .none .none (.str (.ofString "postcore.objects") (336:Nat)) .none (.ref (260:Nat)) .none (0:Nat))) ::
  (nat_lit 262, (.mk (.type "tuple") .none (.seq #[] (0:Nat)) #[])) ::
  (nat_lit 264, (.mk (.type "tuple") .none (.seq #[(.str (.ofString "thing") (532:Nat)), (.str (.ofString "span") (533:Nat))] (0:Nat)) #[])) ::
  (nat_lit 265, (.mk (.type "tuple") .none (.seq #[] (0:Nat)) #[])) ::
  (nat_lit 267, (.mk (.type "code") .none (.fields #[(.str (.ofString "with_span") (529:Nat)), (.str (.ofString "with_span") (530:Nat)), (.str (.ofString "/claim/cut.py") (531:Nat)), (.int 91 (0:Nat)), (.int 2 (0:Nat)), (.int 0 (0:Nat)), (.int 0 (0:Nat)), (.int 3 (0:Nat)), (.ref (262:Nat)), (.bool .true), (.int 181 (0:Nat)), (.ref (263:Nat)), .none, (.ref (264:Nat)), (.ref (265:Nat)), (.ref (266:Nat)), (.int 534 (0:Nat)), (.int 91 (0:Nat)), (.str (.ofString "/claim/cut.py") (535:Nat))]) #[])) ::
  (nat_lit 268, (fnO (s := st 30) rfl (.type "function") .none #[] (.ofString "with_span") (3:Nat) [] .none .none .none (.str (.ofString "postcore.objects") (336:Nat)) .none (.ref (267:Nat)) .none (0:Nat))) ::
  (nat_lit 269, (.mk (.type "tuple") .none (.seq #[] (0:Nat)) #[])) ::
  (nat_lit 271, (.mk (.type "tuple") .none (.seq #[(.str (.ofString "span") (540:Nat))] (0:Nat)) #[])) ::
  (nat_lit 272, (.mk (.type "tuple") .none (.seq #[] (0:Nat)) #[])) ::
  (nat_lit 274, (.mk (.type "code") .none (.fields #[(.str (.ofString "is_text_span") (537:Nat)), (.str (.ofString "is_text_span") (538:Nat)), (.str (.ofString "/claim/cut.py") (539:Nat)), (.int 93 (0:Nat)), (.int 1 (0:Nat)), (.int 0 (0:Nat)), (.int 0 (0:Nat)), (.int 3 (0:Nat)), (.ref (269:Nat)), (.bool .true), (.int 181 (0:Nat)), (.ref (270:Nat)), .none, (.ref (271:Nat)), (.ref (272:Nat)), (.ref (273:Nat)), (.int 541 (0:Nat)), (.int 93 (0:Nat)), (.str (.ofString "/claim/cut.py") (542:Nat))]) #[])) ::
  (nat_lit 275, (fnO (s := st 31) rfl (.type "function") .none #[] (.ofString "is_text_span") (3:Nat) [] .none .none .none (.str (.ofString "postcore.objects") (336:Nat)) .none (.ref (274:Nat)) .none (0:Nat))) ::
  (nat_lit 276, (.mk (.type "tuple") .none (.seq #[] (0:Nat)) #[])) ::
  (nat_lit 278, (.mk (.type "tuple") .none (.seq #[(.str (.ofString "span") (547:Nat)), (.str (.ofString "at") (548:Nat))] (0:Nat)) #[])) ::
  (nat_lit 279, (.mk (.type "tuple") .none (.seq #[] (0:Nat)) #[])) ::
  (nat_lit 281, (.mk (.type "code") .none (.fields #[(.str (.ofString "item") (544:Nat)), (.str (.ofString "item") (545:Nat)), (.str (.ofString "/claim/cut.py") (546:Nat)), (.int 95 (0:Nat)), (.int 2 (0:Nat)), (.int 0 (0:Nat)), (.int 0 (0:Nat)), (.int 3 (0:Nat)), (.ref (276:Nat)), (.bool .true), (.int 181 (0:Nat)), (.ref (277:Nat)), .none, (.ref (278:Nat)), (.ref (279:Nat)), (.ref (280:Nat)), (.int 549 (0:Nat)), (.int 95 (0:Nat)), (.str (.ofString "/claim/cut.py") (550:Nat))]) #[])) ::
  (nat_lit 282, (fnO (s := st 32) rfl (.type "function") .none #[] (.ofString "item") (3:Nat) [] .none .none .none (.str (.ofString "postcore.objects") (336:Nat)) .none (.ref (281:Nat)) .none (0:Nat))) ::
  (nat_lit 283, (.mk (.type "tuple") .none (.seq #[] (0:Nat)) #[])) ::
  (nat_lit 285, (.mk (.type "tuple") .none (.seq #[(.str (.ofString "span") (555:Nat))] (0:Nat)) #[])) ::
  (nat_lit 286, (.mk (.type "tuple") .none (.seq #[] (0:Nat)) #[])) ::
  (nat_lit 288, (.mk (.type "code") .none (.fields #[(.str (.ofString "octets_of_span") (552:Nat)), (.str (.ofString "octets_of_span") (553:Nat)), (.str (.ofString "/claim/cut.py") (554:Nat)), (.int 100 (0:Nat)), (.int 1 (0:Nat)), (.int 0 (0:Nat)), (.int 0 (0:Nat)), (.int 3 (0:Nat)), (.ref (283:Nat)), (.bool .true), (.int 181 (0:Nat)), (.ref (284:Nat)), .none, (.ref (285:Nat)), (.ref (286:Nat)), (.ref (287:Nat)), (.int 556 (0:Nat)), (.int 100 (0:Nat)), (.str (.ofString "/claim/cut.py") (557:Nat))]) #[])) ::
  (nat_lit 289, (fnO (s := st 33) rfl (.type "function") .none #[] (.ofString "octets_of_span") (3:Nat) [] .none .none .none (.str (.ofString "postcore.objects") (336:Nat)) .none (.ref (288:Nat)) .none (0:Nat))) ::
  (nat_lit 290, (.mk (.type "tuple") .none (.seq #[] (0:Nat)) #[])) ::
  (nat_lit 292, (.mk (.type "tuple") .none (.seq #[(.str (.ofString "thing") (562:Nat))] (0:Nat)) #[])) ::
  (nat_lit 293, (.mk (.type "tuple") .none (.seq #[] (0:Nat)) #[])) ::
  (nat_lit 295, (.mk (.type "code") .none (.fields #[(.str (.ofString "thing_octets") (559:Nat)), (.str (.ofString "thing_octets") (560:Nat)), (.str (.ofString "/claim/cut.py") (561:Nat)), (.int 102 (0:Nat)), (.int 1 (0:Nat)), (.int 0 (0:Nat)), (.int 0 (0:Nat)), (.int 3 (0:Nat)), (.ref (290:Nat)), (.bool .true), (.int 181 (0:Nat)), (.ref (291:Nat)), .none, (.ref (292:Nat)), (.ref (293:Nat)), (.ref (294:Nat)), (.int 563 (0:Nat)), (.int 102 (0:Nat)), (.str (.ofString "/claim/cut.py") (564:Nat))]) #[])) ::
  (nat_lit 296, (fnO (s := st 34) rfl (.type "function") .none #[] (.ofString "thing_octets") (3:Nat) [] .none .none .none (.str (.ofString "postcore.objects") (336:Nat)) .none (.ref (295:Nat)) .none (0:Nat))) ::
  (nat_lit 297, (.mk (.type "tuple") .none (.seq #[] (0:Nat)) #[])) ::
  (nat_lit 299, (.mk (.type "tuple") .none (.seq #[(.str (.ofString "thing") (569:Nat))] (0:Nat)) #[])) ::
  (nat_lit 300, (.mk (.type "tuple") .none (.seq #[] (0:Nat)) #[])) ::
  (nat_lit 302, (.mk (.type "code") .none (.fields #[(.str (.ofString "key_of") (566:Nat)), (.str (.ofString "key_of") (567:Nat)), (.str (.ofString "/claim/cut.py") (568:Nat)), (.int 110 (0:Nat)), (.int 1 (0:Nat)), (.int 0 (0:Nat)), (.int 0 (0:Nat)), (.int 3 (0:Nat)), (.ref (297:Nat)), (.bool .true), (.int 181 (0:Nat)), (.ref (298:Nat)), .none, (.ref (299:Nat)), (.ref (300:Nat)), (.ref (301:Nat)), (.int 570 (0:Nat)), (.int 110 (0:Nat)), (.str (.ofString "/claim/cut.py") (571:Nat))]) #[])) ::
  (nat_lit 303, (fnO (s := st 35) rfl (.type "function") .none #[] (.ofString "key_of") (3:Nat) [] .none .none .none (.str (.ofString "postcore.objects") (336:Nat)) .none (.ref (302:Nat)) .none (0:Nat))) ::
  (nat_lit 311, (.mk (.type "tuple") .none (.seq #[(.int 0 (587:Nat))] (0:Nat)) #[])) ::
  (nat_lit 312, (.mk (.type "tuple") .none (.seq #[] (0:Nat)) #[])) ::
  (nat_lit 314, (.mk (.type "tuple") .none (.seq #[(.str (.ofString "self") (591:Nat)), (.str (.ofString "octets") (592:Nat)), (.str (.ofString "at") (593:Nat))] (0:Nat)) #[])) ::
  (nat_lit 315, (.mk (.type "tuple") .none (.seq #[] (0:Nat)) #[])) ::
  (nat_lit 317, (.mk (.type "code") .none (.fields #[(.str (.ofString "__init__") (588:Nat)), (.str (.ofString "OctetSource.__init__") (589:Nat)), (.str (.ofString "/claim/cut.py") (590:Nat)), (.int 127 (0:Nat)), (.int 3 (0:Nat)), (.int 0 (0:Nat)), (.int 0 (0:Nat)), (.int 3 (0:Nat)), (.ref (312:Nat)), (.bool .true), (.int 181 (0:Nat)), (.ref (313:Nat)), .none, (.ref (314:Nat)), (.ref (315:Nat)), (.ref (316:Nat)), (.int 594 (0:Nat)), (.int 127 (0:Nat)), (.str (.ofString "/claim/cut.py") (595:Nat))]) #[])) ::
  (nat_lit 318, (fnO (s := mt 37 0) rfl (.type "function") .none #[] (.ofString "OctetSource.__init__") (3:Nat) [] (.ref (311:Nat)) .none .none (.str (.ofString "postcore.scanner") (573:Nat)) .none (.ref (317:Nat)) .none (0:Nat))) ::
  (nat_lit 319, (.mk (.type "tuple") .none (.seq #[] (0:Nat)) #[])) ::
  (nat_lit 321, (.mk (.type "tuple") .none (.seq #[(.str (.ofString "self") (600:Nat))] (0:Nat)) #[])) ::
  (nat_lit 322, (.mk (.type "tuple") .none (.seq #[] (0:Nat)) #[])) ::
  (nat_lit 324, (.mk (.type "code") .none (.fields #[(.str (.ofString "place") (597:Nat)), (.str (.ofString "OctetSource.place") (598:Nat)), (.str (.ofString "/claim/cut.py") (599:Nat)), (.int 131 (0:Nat)), (.int 1 (0:Nat)), (.int 0 (0:Nat)), (.int 0 (0:Nat)), (.int 3 (0:Nat)), (.ref (319:Nat)), (.bool .true), (.int 181 (0:Nat)), (.ref (320:Nat)), .none, (.ref (321:Nat)), (.ref (322:Nat)), (.ref (323:Nat)), (.int 601 (0:Nat)), (.int 131 (0:Nat)), (.str (.ofString "/claim/cut.py") (602:Nat))]) #[])) ::
  (nat_lit 325, (fnO (s := mt 37 1) rfl (.type "function") .none #[] (.ofString "OctetSource.place") (3:Nat) [] .none .none .none (.str (.ofString "postcore.scanner") (573:Nat)) .none (.ref (324:Nat)) .none (0:Nat))) ::
  (nat_lit 326, (.mk (.type "property") .none (.fields #[(.ref (325:Nat)), .none, .none, .none, (.str (.ofString "place") (604:Nat)), (.bool .false)]) #[])) ::
  (nat_lit 327, (.mk (.type "tuple") .none (.seq #[] (0:Nat)) #[])) ::
  (nat_lit 329, (.mk (.type "tuple") .none (.seq #[(.str (.ofString "self") (608:Nat))] (0:Nat)) #[])) ::
  (nat_lit 330, (.mk (.type "tuple") .none (.seq #[] (0:Nat)) #[])) ::
  (nat_lit 332, (.mk (.type "code") .none (.fields #[(.str (.ofString "next") (605:Nat)), (.str (.ofString "OctetSource.next") (606:Nat)), (.str (.ofString "/claim/cut.py") (607:Nat)), (.int 135 (0:Nat)), (.int 1 (0:Nat)), (.int 0 (0:Nat)), (.int 0 (0:Nat)), (.int 3 (0:Nat)), (.ref (327:Nat)), (.bool .true), (.int 181 (0:Nat)), (.ref (328:Nat)), .none, (.ref (329:Nat)), (.ref (330:Nat)), (.ref (331:Nat)), (.int 609 (0:Nat)), (.int 135 (0:Nat)), (.str (.ofString "/claim/cut.py") (610:Nat))]) #[])) ::
  (nat_lit 333, (fnO (s := mt 37 2) rfl (.type "function") .none #[] (.ofString "OctetSource.next") (3:Nat) [] .none .none .none (.str (.ofString "postcore.scanner") (573:Nat)) .none (.ref (332:Nat)) .none (0:Nat))) ::
  (nat_lit 334, (.mk (.type "tuple") .none (.seq #[] (0:Nat)) #[])) ::
  (nat_lit 336, (.mk (.type "tuple") .none (.seq #[(.str (.ofString "self") (615:Nat))] (0:Nat)) #[])) ::
  (nat_lit 337, (.mk (.type "tuple") .none (.seq #[] (0:Nat)) #[])) ::
  (nat_lit 339, (.mk (.type "code") .none (.fields #[(.str (.ofString "back") (612:Nat)), (.str (.ofString "OctetSource.back") (613:Nat)), (.str (.ofString "/claim/cut.py") (614:Nat)), (.int 141 (0:Nat)), (.int 1 (0:Nat)), (.int 0 (0:Nat)), (.int 0 (0:Nat)), (.int 3 (0:Nat)), (.ref (334:Nat)), (.bool .true), (.int 181 (0:Nat)), (.ref (335:Nat)), .none, (.ref (336:Nat)), (.ref (337:Nat)), (.ref (338:Nat)), (.int 616 (0:Nat)), (.int 141 (0:Nat)), (.str (.ofString "/claim/cut.py") (617:Nat))]) #[])) ::
  (nat_lit 340, (fnO (s := mt 37 3) rfl (.type "function") .none #[] (.ofString "OctetSource.back") (3:Nat) [] .none .none .none (.str (.ofString "postcore.scanner") (573:Nat)) .none (.ref (339:Nat)) .none (0:Nat))) ::
  (nat_lit 341, (.mk (.type "tuple") .none (.seq #[(.str (.ofString "at") (619:Nat)), (.str (.ofString "octets") (620:Nat))] (0:Nat)) #[])) ::
  (nat_lit 342, (.mk (.type "dict") .none (.dict #[(.mk (PyData.keyHash P (.ofString "__module__")) (.str (.ofString "__module__") (582:Nat)) (.str (.ofString "postcore.scanner") (573:Nat))), (.mk (PyData.keyHash P (.ofString "__firstlineno__")) (.str (.ofString "__firstlineno__") (586:Nat)) (.int 125 (585:Nat))), (.mk (PyData.keyHash P (.ofString "__init__")) (.str (.ofString "__init__") (596:Nat)) (.ref (318:Nat))), (.mk (PyData.keyHash P (.ofString "place")) (.str (.ofString "place") (604:Nat)) (.ref (326:Nat))), (.mk (PyData.keyHash P (.ofString "next")) (.str (.ofString "next") (611:Nat)) (.ref (333:Nat))), (.mk (PyData.keyHash P (.ofString "back")) (.str (.ofString "back") (618:Nat)) (.ref (340:Nat))), (.mk (PyData.keyHash P (.ofString "__static_attributes__")) (.str (.ofString "__static_attributes__") (621:Nat)) (.ref (341:Nat))), (.mk (PyData.keyHash P (.ofString "__dict__")) (.str (.ofString "__dict__") (623:Nat)) (.ref (344:Nat))), (.mk (PyData.keyHash P (.ofString "__weakref__")) (.str (.ofString "__weakref__") (625:Nat)) (.ref (345:Nat))), (.mk (PyData.keyHash P (.ofString "__doc__")) (.str (.ofString "__doc__") (626:Nat)) .none)] (4:Nat)) #[])) ::
  (nat_lit 343, (.mk (.type "type") .none (.cls (.mk (.ofString "OctetSource") [(.type "object")] [(.ref (343:Nat)), (.type "object")] (342:Nat) (.ofString "OctetSource") .true [] [] .false .none .false)) #[.none, .none, (.some (.str (.ofString "OctetSource") (575:Nat))), (.some (.str (.ofString "OctetSource") (583:Nat))), (.some (.builtin "object.__new__")), (.some (.bool .true))])) ::
  (nat_lit 344, (.mk (.type "getset_descriptor") .none (.fields #[(.str (.ofString "__dict__") (622:Nat)), (.ref (343:Nat)), (.builtin "function.__dict__"), (.builtin "function.__dict__#set")]) #[])) ::
  (nat_lit 345, (.mk (.type "getset_descriptor") .none (.fields #[(.str (.ofString "__weakref__") (624:Nat)), (.ref (343:Nat)), (.builtin "ExceptionGroup.__weakref__"), .none]) #[])) ::
  (nat_lit 355, (.mk (.type "tuple") .none (.seq #[] (0:Nat)) #[])) ::
  (nat_lit 357, (.mk (.type "tuple") .none (.seq #[(.str (.ofString "self") (648:Nat)), (.str (.ofString "word") (649:Nat))] (0:Nat)) #[])) ::
  (nat_lit 358, (.mk (.type "tuple") .none (.seq #[] (0:Nat)) #[])) ::
  (nat_lit 360, (.mk (.type "code") .none (.fields #[(.str (.ofString "__init__") (645:Nat)), (.str (.ofString "Frame.__init__") (646:Nat)), (.str (.ofString "/claim/cut.py") (647:Nat)), (.int 147 (0:Nat)), (.int 2 (0:Nat)), (.int 0 (0:Nat)), (.int 0 (0:Nat)), (.int 3 (0:Nat)), (.ref (355:Nat)), (.bool .true), (.int 181 (0:Nat)), (.ref (356:Nat)), .none, (.ref (357:Nat)), (.ref (358:Nat)), (.ref (359:Nat)), (.int 650 (0:Nat)), (.int 147 (0:Nat)), (.str (.ofString "/claim/cut.py") (651:Nat))]) #[])) ::
  (nat_lit 361, (fnO (s := mt 40 0) rfl (.type "function") .none #[] (.ofString "Frame.__init__") (3:Nat) [] .none .none .none (.str (.ofString "postcore.machine") (629:Nat)) .none (.ref (360:Nat)) .none (0:Nat))) ::
  (nat_lit 362, (.mk (.type "tuple") .none (.seq #[] (0:Nat)) #[])) ::
  (nat_lit 364, (.mk (.type "tuple") .none (.seq #[(.str (.ofString "self") (656:Nat)), (.str (.ofString "machine") (657:Nat))] (0:Nat)) #[])) ::
  (nat_lit 365, (.mk (.type "tuple") .none (.seq #[] (0:Nat)) #[])) ::
  (nat_lit 367, (.mk (.type "code") .none (.fields #[(.str (.ofString "step") (653:Nat)), (.str (.ofString "Frame.step") (654:Nat)), (.str (.ofString "/claim/cut.py") (655:Nat)), (.int 150 (0:Nat)), (.int 2 (0:Nat)), (.int 0 (0:Nat)), (.int 0 (0:Nat)), (.int 3 (0:Nat)), (.ref (362:Nat)), (.bool .true), (.int 181 (0:Nat)), (.ref (363:Nat)), .none, (.ref (364:Nat)), (.ref (365:Nat)), (.ref (366:Nat)), (.int 658 (0:Nat)), (.int 150 (0:Nat)), (.str (.ofString "/claim/cut.py") (659:Nat))]) #[])) ::
  (nat_lit 368, (fnO (s := mt 40 1) rfl (.type "function") .none #[] (.ofString "Frame.step") (3:Nat) [] .none .none .none (.str (.ofString "postcore.machine") (629:Nat)) .none (.ref (367:Nat)) .none (0:Nat))) ::
  (nat_lit 369, (.mk (.type "tuple") .none (.seq #[] (0:Nat)) #[])) ::
  (nat_lit 371, (.mk (.type "tuple") .none (.seq #[(.str (.ofString "self") (664:Nat)), (.str (.ofString "machine") (665:Nat))] (0:Nat)) #[])) ::
  (nat_lit 372, (.mk (.type "tuple") .none (.seq #[] (0:Nat)) #[])) ::
  (nat_lit 374, (.mk (.type "code") .none (.fields #[(.str (.ofString "left") (661:Nat)), (.str (.ofString "Frame.left") (662:Nat)), (.str (.ofString "/claim/cut.py") (663:Nat)), (.int 153 (0:Nat)), (.int 2 (0:Nat)), (.int 0 (0:Nat)), (.int 0 (0:Nat)), (.int 3 (0:Nat)), (.ref (369:Nat)), (.bool .true), (.int 181 (0:Nat)), (.ref (370:Nat)), .none, (.ref (371:Nat)), (.ref (372:Nat)), (.ref (373:Nat)), (.int 666 (0:Nat)), (.int 153 (0:Nat)), (.str (.ofString "/claim/cut.py") (667:Nat))]) #[])) ::
  (nat_lit 375, (fnO (s := mt 40 2) rfl (.type "function") .none #[] (.ofString "Frame.left") (3:Nat) [] .none .none .none (.str (.ofString "postcore.machine") (629:Nat)) .none (.ref (374:Nat)) .none (0:Nat))) ::
  (nat_lit 376, (.mk (.type "tuple") .none (.seq #[] (0:Nat)) #[])) ::
  (nat_lit 378, (.mk (.type "tuple") .none (.seq #[(.str (.ofString "self") (672:Nat))] (0:Nat)) #[])) ::
  (nat_lit 379, (.mk (.type "tuple") .none (.seq #[] (0:Nat)) #[])) ::
  (nat_lit 381, (.mk (.type "code") .none (.fields #[(.str (.ofString "thing") (669:Nat)), (.str (.ofString "Frame.thing") (670:Nat)), (.str (.ofString "/claim/cut.py") (671:Nat)), (.int 156 (0:Nat)), (.int 1 (0:Nat)), (.int 0 (0:Nat)), (.int 0 (0:Nat)), (.int 3 (0:Nat)), (.ref (376:Nat)), (.bool .true), (.int 181 (0:Nat)), (.ref (377:Nat)), .none, (.ref (378:Nat)), (.ref (379:Nat)), (.ref (380:Nat)), (.int 673 (0:Nat)), (.int 156 (0:Nat)), (.str (.ofString "/claim/cut.py") (674:Nat))]) #[])) ::
  (nat_lit 382, (fnO (s := mt 40 3) rfl (.type "function") .none #[] (.ofString "Frame.thing") (3:Nat) [] .none .none .none (.str (.ofString "postcore.machine") (629:Nat)) .none (.ref (381:Nat)) .none (0:Nat))) ::
  (nat_lit 383, (.mk (.type "tuple") .none (.seq #[] (0:Nat)) #[])) ::
  (nat_lit 385, (.mk (.type "tuple") .none (.seq #[(.str (.ofString "self") (679:Nat))] (0:Nat)) #[])) ::
  (nat_lit 386, (.mk (.type "tuple") .none (.seq #[] (0:Nat)) #[])) ::
  (nat_lit 388, (.mk (.type "code") .none (.fields #[(.str (.ofString "things") (676:Nat)), (.str (.ofString "Frame.things") (677:Nat)), (.str (.ofString "/claim/cut.py") (678:Nat)), (.int 159 (0:Nat)), (.int 1 (0:Nat)), (.int 0 (0:Nat)), (.int 0 (0:Nat)), (.int 3 (0:Nat)), (.ref (383:Nat)), (.bool .true), (.int 181 (0:Nat)), (.ref (384:Nat)), .none, (.ref (385:Nat)), (.ref (386:Nat)), (.ref (387:Nat)), (.int 680 (0:Nat)), (.int 159 (0:Nat)), (.str (.ofString "/claim/cut.py") (681:Nat))]) #[])) ::
  (nat_lit 389, (fnO (s := mt 40 4) rfl (.type "function") .none #[] (.ofString "Frame.things") (3:Nat) [] .none .none .none (.str (.ofString "postcore.machine") (629:Nat)) .none (.ref (388:Nat)) .none (0:Nat))) ::
  (nat_lit 390, (.mk (.type "tuple") .none (.seq #[(.str (.ofString "word") (683:Nat))] (0:Nat)) #[])) ::
  (nat_lit 391, (.mk (.type "dict") .none (.dict #[(.mk (PyData.keyHash P (.ofString "__module__")) (.str (.ofString "__module__") (640:Nat)) (.str (.ofString "postcore.machine") (629:Nat))), (.mk (PyData.keyHash P (.ofString "__firstlineno__")) (.str (.ofString "__firstlineno__") (644:Nat)) (.int 145 (643:Nat))), (.mk (PyData.keyHash P (.ofString "__init__")) (.str (.ofString "__init__") (652:Nat)) (.ref (361:Nat))), (.mk (PyData.keyHash P (.ofString "step")) (.str (.ofString "step") (660:Nat)) (.ref (368:Nat))), (.mk (PyData.keyHash P (.ofString "left")) (.str (.ofString "left") (668:Nat)) (.ref (375:Nat))), (.mk (PyData.keyHash P (.ofString "thing")) (.str (.ofString "thing") (675:Nat)) (.ref (382:Nat))), (.mk (PyData.keyHash P (.ofString "things")) (.str (.ofString "things") (682:Nat)) (.ref (389:Nat))), (.mk (PyData.keyHash P (.ofString "__static_attributes__")) (.str (.ofString "__static_attributes__") (684:Nat)) (.ref (390:Nat))), (.mk (PyData.keyHash P (.ofString "__dict__")) (.str (.ofString "__dict__") (686:Nat)) (.ref (393:Nat))), (.mk (PyData.keyHash P (.ofString "__weakref__")) (.str (.ofString "__weakref__") (688:Nat)) (.ref (394:Nat))), (.mk (PyData.keyHash P (.ofString "__doc__")) (.str (.ofString "__doc__") (689:Nat)) .none)] (4:Nat)) #[])) ::
  (nat_lit 392, (.mk (.type "type") .none (.cls (.mk (.ofString "Frame") [(.type "object")] [(.ref (392:Nat)), (.type "object")] (391:Nat) (.ofString "Frame") .true [] [(.ref (434:Nat)), (.ref (475:Nat)), (.ref (515:Nat))] .false .none .false)) #[.none, .none, (.some (.str (.ofString "Frame") (633:Nat))), (.some (.str (.ofString "Frame") (641:Nat))), (.some (.builtin "object.__new__")), (.some (.bool .true))])) ::
  (nat_lit 393, (.mk (.type "getset_descriptor") .none (.fields #[(.str (.ofString "__dict__") (685:Nat)), (.ref (392:Nat)), (.builtin "function.__dict__"), (.builtin "function.__dict__#set")]) #[])) ::
  (nat_lit 394, (.mk (.type "getset_descriptor") .none (.fields #[(.str (.ofString "__weakref__") (687:Nat)), (.ref (392:Nat)), (.builtin "ExceptionGroup.__weakref__"), .none]) #[])) ::
  (nat_lit 397, (.mk (.type "tuple") .none (.seq #[(.ref (392:Nat))] (0:Nat)) #[])) ::
  (nat_lit 404, (.mk (.type "tuple") .none (.seq #[] (0:Nat)) #[])) ::
  (nat_lit 406, (.mk (.type "tuple") .none (.seq #[(.str (.ofString "self") (707:Nat)), (.str (.ofString "proc") (708:Nat))] (0:Nat)) #[])) ::
  (nat_lit 407, (.mk (.type "tuple") .none (.seq #[] (0:Nat)) #[])) ::
  (nat_lit 409, (.mk (.type "code") .none (.fields #[(.str (.ofString "__init__") (704:Nat)), (.str (.ofString "ProcFrame.__init__") (705:Nat)), (.str (.ofString "/claim/cut.py") (706:Nat)), (.int 163 (0:Nat)), (.int 2 (0:Nat)), (.int 0 (0:Nat)), (.int 0 (0:Nat)), (.int 3 (0:Nat)), (.ref (404:Nat)), (.bool .true), (.int 181 (0:Nat)), (.ref (405:Nat)), .none, (.ref (406:Nat)), (.ref (407:Nat)), (.ref (408:Nat)), (.int 709 (0:Nat)), (.int 163 (0:Nat)), (.str (.ofString "/claim/cut.py") (710:Nat))]) #[])) ::
  (nat_lit 410, (fnO (s := mt 41 0) rfl (.type "function") .none #[] (.ofString "ProcFrame.__init__") (3:Nat) [] .none .none .none (.str (.ofString "postcore.machine") (629:Nat)) .none (.ref (409:Nat)) .none (0:Nat))) ::
  (nat_lit 411, (.mk (.type "tuple") .none (.seq #[] (0:Nat)) #[])) ::
  (nat_lit 413, (.mk (.type "tuple") .none (.seq #[(.str (.ofString "self") (715:Nat)), (.str (.ofString "machine") (716:Nat)), (.str (.ofString "span") (717:Nat)), (.str (.ofString "here") (718:Nat))] (0:Nat)) #[])) ::
  (nat_lit 414, (.mk (.type "tuple") .none (.seq #[] (0:Nat)) #[])) ::
  (nat_lit 416, (.mk (.type "code") .none (.fields #[(.str (.ofString "step") (712:Nat)), (.str (.ofString "ProcFrame.step") (713:Nat)), (.str (.ofString "/claim/cut.py") (714:Nat)), (.int 168 (0:Nat)), (.int 2 (0:Nat)), (.int 0 (0:Nat)), (.int 0 (0:Nat)), (.int 3 (0:Nat)), (.ref (411:Nat)), (.bool .true), (.int 181 (0:Nat)), (.ref (412:Nat)), .none, (.ref (413:Nat)), (.ref (414:Nat)), (.ref (415:Nat)), (.int 719 (0:Nat)), (.int 168 (0:Nat)), (.str (.ofString "/claim/cut.py") (720:Nat))]) #[])) ::
  (nat_lit 417, (fnO (s := mt 41 1) rfl (.type "function") .none #[] (.ofString "ProcFrame.step") (3:Nat) [] .none .none .none (.str (.ofString "postcore.machine") (629:Nat)) .none (.ref (416:Nat)) .none (0:Nat))) ::
  (nat_lit 418, (.mk (.type "tuple") .none (.seq #[] (0:Nat)) #[])) ::
  (nat_lit 420, (.mk (.type "tuple") .none (.seq #[(.str (.ofString "self") (725:Nat)), (.str (.ofString "span") (726:Nat))] (0:Nat)) #[])) ::
  (nat_lit 421, (.mk (.type "tuple") .none (.seq #[] (0:Nat)) #[])) ::
  (nat_lit 423, (.mk (.type "code") .none (.fields #[(.str (.ofString "thing") (722:Nat)), (.str (.ofString "ProcFrame.thing") (723:Nat)), (.str (.ofString "/claim/cut.py") (724:Nat)), (.int 176 (0:Nat)), (.int 1 (0:Nat)), (.int 0 (0:Nat)), (.int 0 (0:Nat)), (.int 3 (0:Nat)), (.ref (418:Nat)), (.bool .true), (.int 181 (0:Nat)), (.ref (419:Nat)), .none, (.ref (420:Nat)), (.ref (421:Nat)), (.ref (422:Nat)), (.int 727 (0:Nat)), (.int 176 (0:Nat)), (.str (.ofString "/claim/cut.py") (728:Nat))]) #[])) ::
  (nat_lit 424, (fnO (s := mt 41 2) rfl (.type "function") .none #[] (.ofString "ProcFrame.thing") (3:Nat) [] .none .none .none (.str (.ofString "postcore.machine") (629:Nat)) .none (.ref (423:Nat)) .none (0:Nat))) ::
  (nat_lit 425, (.mk (.type "tuple") .none (.seq #[] (0:Nat)) #[])) ::
  (nat_lit 427, (.mk (.type "tuple") .none (.seq #[(.str (.ofString "self") (733:Nat))] (0:Nat)) #[])) ::
  (nat_lit 428, (.mk (.type "tuple") .none (.seq #[] (0:Nat)) #[])) ::
  (nat_lit 430, (.mk (.type "code") .none (.fields #[(.str (.ofString "things") (730:Nat)), (.str (.ofString "ProcFrame.things") (731:Nat)), (.str (.ofString "/claim/cut.py") (732:Nat)), (.int 180 (0:Nat)), (.int 1 (0:Nat)), (.int 0 (0:Nat)), (.int 0 (0:Nat)), (.int 3 (0:Nat)), (.ref (425:Nat)), (.bool .true), (.int 181 (0:Nat)), (.ref (426:Nat)), .none, (.ref (427:Nat)), (.ref (428:Nat)), (.ref (429:Nat)), (.int 734 (0:Nat)), (.int 180 (0:Nat)), (.str (.ofString "/claim/cut.py") (735:Nat))]) #[])) ::
  (nat_lit 431, (fnO (s := mt 41 3) rfl (.type "function") .none #[] (.ofString "ProcFrame.things") (3:Nat) [] .none .none .none (.str (.ofString "postcore.machine") (629:Nat)) .none (.ref (430:Nat)) .none (0:Nat))) ::
  (nat_lit 432, (.mk (.type "tuple") .none (.seq #[(.str (.ofString "at") (737:Nat)), (.str (.ofString "proc") (738:Nat)), (.str (.ofString "word") (739:Nat))] (0:Nat)) #[])) ::
  (nat_lit 433, (.mk (.type "dict") .none (.dict #[(.mk (PyData.keyHash P (.ofString "__module__")) (.str (.ofString "__module__") (699:Nat)) (.str (.ofString "postcore.machine") (629:Nat))), (.mk (PyData.keyHash P (.ofString "__firstlineno__")) (.str (.ofString "__firstlineno__") (703:Nat)) (.int 161 (702:Nat))), (.mk (PyData.keyHash P (.ofString "__init__")) (.str (.ofString "__init__") (711:Nat)) (.ref (410:Nat))), (.mk (PyData.keyHash P (.ofString "step")) (.str (.ofString "step") (721:Nat)) (.ref (417:Nat))), (.mk (PyData.keyHash P (.ofString "thing")) (.str (.ofString "thing") (729:Nat)) (.ref (424:Nat))), (.mk (PyData.keyHash P (.ofString "things")) (.str (.ofString "things") (736:Nat)) (.ref (431:Nat))), (.mk (PyData.keyHash P (.ofString "__static_attributes__")) (.str (.ofString "__static_attributes__") (740:Nat)) (.ref (432:Nat))), (.mk (PyData.keyHash P (.ofString "__doc__")) (.str (.ofString "__doc__") (741:Nat)) .none)] (2:Nat)) #[])) ::
  (nat_lit 434, (.mk (.type "type") .none (.cls (.mk (.ofString "ProcFrame") [(.ref (392:Nat))] [(.ref (434:Nat)), (.ref (392:Nat)), (.type "object")] (433:Nat) (.ofString "ProcFrame") .true [] [] .false .none .false)) #[(.some (.ref (397:Nat))), .none, (.some (.str (.ofString "ProcFrame") (692:Nat))), (.some (.str (.ofString "ProcFrame") (700:Nat))), (.some (.builtin "object.__new__")), (.some (.bool .true))])) ::
  (nat_lit 437, (.mk (.type "tuple") .none (.seq #[(.ref (392:Nat))] (0:Nat)) #[])) ::
  (nat_lit 444, (.mk (.type "tuple") .none (.seq #[.none] (0:Nat)) #[])) ::
  (nat_lit 445, (.mk (.type "tuple") .none (.seq #[] (0:Nat)) #[])) ::
  (nat_lit 447, (.mk (.type "tuple") .none (.seq #[(.str (.ofString "self") (759:Nat)), (.str (.ofString "source") (760:Nat)), (.str (.ofString "file") (761:Nat))] (0:Nat)) #[])) ::
  (nat_lit 448, (.mk (.type "tuple") .none (.seq #[] (0:Nat)) #[])) ::
  (nat_lit 450, (.mk (.type "code") .none (.fields #[(.str (.ofString "__init__") (756:Nat)), (.str (.ofString "SourceFrame.__init__") (757:Nat)), (.str (.ofString "/claim/cut.py") (758:Nat)), (.int 184 (0:Nat)), (.int 3 (0:Nat)), (.int 0 (0:Nat)), (.int 0 (0:Nat)), (.int 3 (0:Nat)), (.ref (445:Nat)), (.bool .true), (.int 181 (0:Nat)), (.ref (446:Nat)), .none, (.ref (447:Nat)), (.ref (448:Nat)), (.ref (449:Nat)), (.int 762 (0:Nat)), (.int 184 (0:Nat)), (.str (.ofString "/claim/cut.py") (763:Nat))]) #[])) ::
  (nat_lit 451, (fnO (s := mt 42 0) rfl (.type "function") .none #[] (.ofString "SourceFrame.__init__") (3:Nat) [] (.ref (444:Nat)) .none .none (.str (.ofString "postcore.machine") (629:Nat)) .none (.ref (450:Nat)) .none (0:Nat))) ::
  (nat_lit 452, (.mk (.type "tuple") .none (.seq #[] (0:Nat)) #[])) ::
  (nat_lit 454, (.mk (.type "tuple") .none (.seq #[(.str (.ofString "self") (768:Nat)), (.str (.ofString "machine") (769:Nat)), (.str (.ofString "here") (770:Nat))] (0:Nat)) #[])) ::
  (nat_lit 455, (.mk (.type "tuple") .none (.seq #[] (0:Nat)) #[])) ::
  (nat_lit 457, (.mk (.type "code") .none (.fields #[(.str (.ofString "step") (765:Nat)), (.str (.ofString "SourceFrame.step") (766:Nat)), (.str (.ofString "/claim/cut.py") (767:Nat)), (.int 189 (0:Nat)), (.int 2 (0:Nat)), (.int 0 (0:Nat)), (.int 0 (0:Nat)), (.int 3 (0:Nat)), (.ref (452:Nat)), (.bool .true), (.int 181 (0:Nat)), (.ref (453:Nat)), .none, (.ref (454:Nat)), (.ref (455:Nat)), (.ref (456:Nat)), (.int 771 (0:Nat)), (.int 189 (0:Nat)), (.str (.ofString "/claim/cut.py") (772:Nat))]) #[])) ::
  (nat_lit 458, (fnO (s := mt 42 1) rfl (.type "function") .none #[] (.ofString "SourceFrame.step") (3:Nat) [] .none .none .none (.str (.ofString "postcore.machine") (629:Nat)) .none (.ref (457:Nat)) .none (0:Nat))) ::
  (nat_lit 459, (.mk (.type "tuple") .none (.seq #[] (0:Nat)) #[])) ::
  (nat_lit 461, (.mk (.type "tuple") .none (.seq #[(.str (.ofString "self") (777:Nat))] (0:Nat)) #[])) ::
  (nat_lit 462, (.mk (.type "tuple") .none (.seq #[] (0:Nat)) #[])) ::
  (nat_lit 464, (.mk (.type "code") .none (.fields #[(.str (.ofString "thing") (774:Nat)), (.str (.ofString "SourceFrame.thing") (775:Nat)), (.str (.ofString "/claim/cut.py") (776:Nat)), (.int 198 (0:Nat)), (.int 1 (0:Nat)), (.int 0 (0:Nat)), (.int 0 (0:Nat)), (.int 3 (0:Nat)), (.ref (459:Nat)), (.bool .true), (.int 181 (0:Nat)), (.ref (460:Nat)), .none, (.ref (461:Nat)), (.ref (462:Nat)), (.ref (463:Nat)), (.int 778 (0:Nat)), (.int 198 (0:Nat)), (.str (.ofString "/claim/cut.py") (779:Nat))]) #[])) ::
  (nat_lit 465, (fnO (s := mt 42 2) rfl (.type "function") .none #[] (.ofString "SourceFrame.thing") (3:Nat) [] .none .none .none (.str (.ofString "postcore.machine") (629:Nat)) .none (.ref (464:Nat)) .none (0:Nat))) ::
  (nat_lit 466, (.mk (.type "tuple") .none (.seq #[] (0:Nat)) #[])) ::
  (nat_lit 468, (.mk (.type "tuple") .none (.seq #[(.str (.ofString "self") (784:Nat))] (0:Nat)) #[])) ::
  (nat_lit 469, (.mk (.type "tuple") .none (.seq #[] (0:Nat)) #[])) ::
  (nat_lit 471, (.mk (.type "code") .none (.fields #[(.str (.ofString "things") (781:Nat)), (.str (.ofString "SourceFrame.things") (782:Nat)), (.str (.ofString "/claim/cut.py") (783:Nat)), (.int 201 (0:Nat)), (.int 1 (0:Nat)), (.int 0 (0:Nat)), (.int 0 (0:Nat)), (.int 3 (0:Nat)), (.ref (466:Nat)), (.bool .true), (.int 181 (0:Nat)), (.ref (467:Nat)), .none, (.ref (468:Nat)), (.ref (469:Nat)), (.ref (470:Nat)), (.int 785 (0:Nat)), (.int 201 (0:Nat)), (.str (.ofString "/claim/cut.py") (786:Nat))]) #[])) ::
  (nat_lit 472, (fnO (s := mt 42 3) rfl (.type "function") .none #[] (.ofString "SourceFrame.things") (3:Nat) [] .none .none .none (.str (.ofString "postcore.machine") (629:Nat)) .none (.ref (471:Nat)) .none (0:Nat))) ::
  (nat_lit 473, (.mk (.type "tuple") .none (.seq #[(.str (.ofString "file") (788:Nat)), (.str (.ofString "source") (789:Nat)), (.str (.ofString "word") (790:Nat))] (0:Nat)) #[])) ::
  (nat_lit 474, (.mk (.type "dict") .none (.dict #[(.mk (PyData.keyHash P (.ofString "__module__")) (.str (.ofString "__module__") (751:Nat)) (.str (.ofString "postcore.machine") (629:Nat))), (.mk (PyData.keyHash P (.ofString "__firstlineno__")) (.str (.ofString "__firstlineno__") (755:Nat)) (.int 182 (754:Nat))), (.mk (PyData.keyHash P (.ofString "__init__")) (.str (.ofString "__init__") (764:Nat)) (.ref (451:Nat))), (.mk (PyData.keyHash P (.ofString "step")) (.str (.ofString "step") (773:Nat)) (.ref (458:Nat))), (.mk (PyData.keyHash P (.ofString "thing")) (.str (.ofString "thing") (780:Nat)) (.ref (465:Nat))), (.mk (PyData.keyHash P (.ofString "things")) (.str (.ofString "things") (787:Nat)) (.ref (472:Nat))), (.mk (PyData.keyHash P (.ofString "__static_attributes__")) (.str (.ofString "__static_attributes__") (791:Nat)) (.ref (473:Nat))), (.mk (PyData.keyHash P (.ofString "__doc__")) (.str (.ofString "__doc__") (792:Nat)) .none)] (2:Nat)) #[])) ::
  (nat_lit 475, (.mk (.type "type") .none (.cls (.mk (.ofString "SourceFrame") [(.ref (392:Nat))] [(.ref (475:Nat)), (.ref (392:Nat)), (.type "object")] (474:Nat) (.ofString "SourceFrame") .true [] [] .false .none .false)) #[(.some (.ref (437:Nat))), .none, (.some (.str (.ofString "SourceFrame") (744:Nat))), (.some (.str (.ofString "SourceFrame") (752:Nat))), (.some (.builtin "object.__new__")), (.some (.bool .true))])) ::
  (nat_lit 478, (.mk (.type "tuple") .none (.seq #[(.ref (392:Nat))] (0:Nat)) #[])) ::
  (nat_lit 485, (.mk (.type "tuple") .none (.seq #[] (0:Nat)) #[])) ::
  (nat_lit 487, (.mk (.type "tuple") .none (.seq #[(.str (.ofString "self") (810:Nat)), (.str (.ofString "held") (811:Nat))] (0:Nat)) #[])) ::
  (nat_lit 488, (.mk (.type "tuple") .none (.seq #[] (0:Nat)) #[])) ::
  (nat_lit 490, (.mk (.type "code") .none (.fields #[(.str (.ofString "__init__") (807:Nat)), (.str (.ofString "ThingFrame.__init__") (808:Nat)), (.str (.ofString "/claim/cut.py") (809:Nat)), (.int 205 (0:Nat)), (.int 2 (0:Nat)), (.int 0 (0:Nat)), (.int 0 (0:Nat)), (.int 3 (0:Nat)), (.ref (485:Nat)), (.bool .true), (.int 181 (0:Nat)), (.ref (486:Nat)), .none, (.ref (487:Nat)), (.ref (488:Nat)), (.ref (489:Nat)), (.int 812 (0:Nat)), (.int 205 (0:Nat)), (.str (.ofString "/claim/cut.py") (813:Nat))]) #[])) ::
  (nat_lit 491, (fnO (s := mt 43 0) rfl (.type "function") .none #[] (.ofString "ThingFrame.__init__") (3:Nat) [] .none .none .none (.str (.ofString "postcore.machine") (629:Nat)) .none (.ref (490:Nat)) .none (0:Nat))) ::
  (nat_lit 492, (.mk (.type "tuple") .none (.seq #[] (0:Nat)) #[])) ::
  (nat_lit 494, (.mk (.type "tuple") .none (.seq #[(.str (.ofString "self") (818:Nat)), (.str (.ofString "machine") (819:Nat))] (0:Nat)) #[])) ::
  (nat_lit 495, (.mk (.type "tuple") .none (.seq #[] (0:Nat)) #[])) ::
  (nat_lit 497, (.mk (.type "code") .none (.fields #[(.str (.ofString "step") (815:Nat)), (.str (.ofString "ThingFrame.step") (816:Nat)), (.str (.ofString "/claim/cut.py") (817:Nat)), (.int 209 (0:Nat)), (.int 2 (0:Nat)), (.int 0 (0:Nat)), (.int 0 (0:Nat)), (.int 3 (0:Nat)), (.ref (492:Nat)), (.bool .true), (.int 181 (0:Nat)), (.ref (493:Nat)), .none, (.ref (494:Nat)), (.ref (495:Nat)), (.ref (496:Nat)), (.int 820 (0:Nat)), (.int 209 (0:Nat)), (.str (.ofString "/claim/cut.py") (821:Nat))]) #[])) ::
  (nat_lit 498, (fnO (s := mt 43 1) rfl (.type "function") .none #[] (.ofString "ThingFrame.step") (3:Nat) [] .none .none .none (.str (.ofString "postcore.machine") (629:Nat)) .none (.ref (497:Nat)) .none (0:Nat))) ::
  (nat_lit 499, (.mk (.type "tuple") .none (.seq #[] (0:Nat)) #[])) ::
  (nat_lit 501, (.mk (.type "tuple") .none (.seq #[(.str (.ofString "self") (826:Nat))] (0:Nat)) #[])) ::
  (nat_lit 502, (.mk (.type "tuple") .none (.seq #[] (0:Nat)) #[])) ::
  (nat_lit 504, (.mk (.type "code") .none (.fields #[(.str (.ofString "thing") (823:Nat)), (.str (.ofString "ThingFrame.thing") (824:Nat)), (.str (.ofString "/claim/cut.py") (825:Nat)), (.int 213 (0:Nat)), (.int 1 (0:Nat)), (.int 0 (0:Nat)), (.int 0 (0:Nat)), (.int 3 (0:Nat)), (.ref (499:Nat)), (.bool .true), (.int 181 (0:Nat)), (.ref (500:Nat)), .none, (.ref (501:Nat)), (.ref (502:Nat)), (.ref (503:Nat)), (.int 827 (0:Nat)), (.int 213 (0:Nat)), (.str (.ofString "/claim/cut.py") (828:Nat))]) #[])) ::
  (nat_lit 505, (fnO (s := mt 43 2) rfl (.type "function") .none #[] (.ofString "ThingFrame.thing") (3:Nat) [] .none .none .none (.str (.ofString "postcore.machine") (629:Nat)) .none (.ref (504:Nat)) .none (0:Nat))) ::
  (nat_lit 506, (.mk (.type "tuple") .none (.seq #[] (0:Nat)) #[])) ::
  (nat_lit 508, (.mk (.type "tuple") .none (.seq #[(.str (.ofString "self") (833:Nat))] (0:Nat)) #[])) ::
  (nat_lit 509, (.mk (.type "tuple") .none (.seq #[] (0:Nat)) #[])) ::
  (nat_lit 511, (.mk (.type "code") .none (.fields #[(.str (.ofString "things") (830:Nat)), (.str (.ofString "ThingFrame.things") (831:Nat)), (.str (.ofString "/claim/cut.py") (832:Nat)), (.int 216 (0:Nat)), (.int 1 (0:Nat)), (.int 0 (0:Nat)), (.int 0 (0:Nat)), (.int 3 (0:Nat)), (.ref (506:Nat)), (.bool .true), (.int 181 (0:Nat)), (.ref (507:Nat)), .none, (.ref (508:Nat)), (.ref (509:Nat)), (.ref (510:Nat)), (.int 834 (0:Nat)), (.int 216 (0:Nat)), (.str (.ofString "/claim/cut.py") (835:Nat))]) #[])) ::
  (nat_lit 512, (fnO (s := mt 43 3) rfl (.type "function") .none #[] (.ofString "ThingFrame.things") (3:Nat) [] .none .none .none (.str (.ofString "postcore.machine") (629:Nat)) .none (.ref (511:Nat)) .none (0:Nat))) ::
  (nat_lit 513, (.mk (.type "tuple") .none (.seq #[(.str (.ofString "held") (837:Nat)), (.str (.ofString "word") (838:Nat))] (0:Nat)) #[])) ::
  (nat_lit 514, (.mk (.type "dict") .none (.dict #[(.mk (PyData.keyHash P (.ofString "__module__")) (.str (.ofString "__module__") (802:Nat)) (.str (.ofString "postcore.machine") (629:Nat))), (.mk (PyData.keyHash P (.ofString "__firstlineno__")) (.str (.ofString "__firstlineno__") (806:Nat)) (.int 203 (805:Nat))), (.mk (PyData.keyHash P (.ofString "__init__")) (.str (.ofString "__init__") (814:Nat)) (.ref (491:Nat))), (.mk (PyData.keyHash P (.ofString "step")) (.str (.ofString "step") (822:Nat)) (.ref (498:Nat))), (.mk (PyData.keyHash P (.ofString "thing")) (.str (.ofString "thing") (829:Nat)) (.ref (505:Nat))), (.mk (PyData.keyHash P (.ofString "things")) (.str (.ofString "things") (836:Nat)) (.ref (512:Nat))), (.mk (PyData.keyHash P (.ofString "__static_attributes__")) (.str (.ofString "__static_attributes__") (839:Nat)) (.ref (513:Nat))), (.mk (PyData.keyHash P (.ofString "__doc__")) (.str (.ofString "__doc__") (840:Nat)) .none)] (2:Nat)) #[])) ::
  (nat_lit 515, (.mk (.type "type") .none (.cls (.mk (.ofString "ThingFrame") [(.ref (392:Nat))] [(.ref (515:Nat)), (.ref (392:Nat)), (.type "object")] (514:Nat) (.ofString "ThingFrame") .true [] [] .false .none .false)) #[(.some (.ref (478:Nat))), .none, (.some (.str (.ofString "ThingFrame") (795:Nat))), (.some (.str (.ofString "ThingFrame") (803:Nat))), (.some (.builtin "object.__new__")), (.some (.bool .true))])) ::
  (nat_lit 518, (.mk (.type "tuple") .none (.seq #[] (0:Nat)) #[])) ::
  (nat_lit 520, (.mk (.type "tuple") .none (.seq #[(.str (.ofString "machine") (846:Nat)), (.str (.ofString "found") (847:Nat))] (0:Nat)) #[])) ::
  (nat_lit 521, (.mk (.type "tuple") .none (.seq #[(.str (.ofString "machine") (848:Nat))] (0:Nat)) #[])) ::
  (nat_lit 523, (.mk (.type "code") .none (.fields #[(.str (.ofString "machine_lookup") (843:Nat)), (.str (.ofString "machine_lookup") (844:Nat)), (.str (.ofString "/claim/cut.py") (845:Nat)), (.int 218 (0:Nat)), (.int 1 (0:Nat)), (.int 0 (0:Nat)), (.int 0 (0:Nat)), (.int 3 (0:Nat)), (.ref (518:Nat)), (.bool .true), (.int 181 (0:Nat)), (.ref (519:Nat)), .none, (.ref (520:Nat)), (.ref (521:Nat)), (.ref (522:Nat)), (.int 849 (0:Nat)), (.int 218 (0:Nat)), (.str (.ofString "/claim/cut.py") (850:Nat))]) #[])) ::
  (nat_lit 524, (fnO (s := st 44) rfl (.type "function") .none #[] (.ofString "machine_lookup") (3:Nat) [] .none .none .none (.str (.ofString "postcore.machine") (629:Nat)) .none (.ref (523:Nat)) .none (0:Nat))) ::
  (nat_lit 532, (.mk (.type "tuple") .none (.seq #[] (0:Nat)) #[])) ::
  (nat_lit 534, (.mk (.type "tuple") .none (.seq #[(.str (.ofString "self") (867:Nat)), (.str (.ofString "memory") (868:Nat)), (.str (.ofString "operands") (869:Nat)), (.str (.ofString "dicts") (870:Nat)), (.str (.ofString "scanner") (871:Nat)), (.str (.ofString "limits") (872:Nat)), (.str (.ofString "disk") (873:Nat))] (0:Nat)) #[])) ::
  (nat_lit 535, (.mk (.type "tuple") .none (.seq #[] (0:Nat)) #[])) ::
  (nat_lit 537, (.mk (.type "code") .none (.fields #[(.str (.ofString "__init__") (864:Nat)), (.str (.ofString "MachineCore.__init__") (865:Nat)), (.str (.ofString "/claim/cut.py") (866:Nat)), (.int 225 (0:Nat)), (.int 7 (0:Nat)), (.int 0 (0:Nat)), (.int 0 (0:Nat)), (.int 3 (0:Nat)), (.ref (532:Nat)), (.bool .true), (.int 181 (0:Nat)), (.ref (533:Nat)), .none, (.ref (534:Nat)), (.ref (535:Nat)), (.ref (536:Nat)), (.int 874 (0:Nat)), (.int 225 (0:Nat)), (.str (.ofString "/claim/cut.py") (875:Nat))]) #[])) ::
  (nat_lit 538, (fnO (s := mt 45 0) rfl (.type "function") .none #[] (.ofString "MachineCore.__init__") (3:Nat) [] .none .none .none (.str (.ofString "postcore.machine") (629:Nat)) .none (.ref (537:Nat)) .none (0:Nat))) ::
  (nat_lit 539, (.mk (.type "tuple") .none (.seq #[] (0:Nat)) #[])) ::
  (nat_lit 541, (.mk (.type "tuple") .none (.seq #[(.str (.ofString "self") (880:Nat)), (.str (.ofString "memory") (881:Nat)), (.str (.ofString "operands") (882:Nat)), (.str (.ofString "dicts") (883:Nat)), (.str (.ofString "scanner") (884:Nat)), (.str (.ofString "limits") (885:Nat)), (.str (.ofString "disk") (886:Nat))] (0:Nat)) #[])) ::
  (nat_lit 542, (.mk (.type "tuple") .none (.seq #[] (0:Nat)) #[])) ::
  (nat_lit 544, (.mk (.type "code") .none (.fields #[(.str (.ofString "begin") (877:Nat)), (.str (.ofString "MachineCore.begin") (878:Nat)), (.str (.ofString "/claim/cut.py") (879:Nat)), (.int 228 (0:Nat)), (.int 7 (0:Nat)), (.int 0 (0:Nat)), (.int 0 (0:Nat)), (.int 3 (0:Nat)), (.ref (539:Nat)), (.bool .true), (.int 181 (0:Nat)), (.ref (540:Nat)), .none, (.ref (541:Nat)), (.ref (542:Nat)), (.ref (543:Nat)), (.int 887 (0:Nat)), (.int 228 (0:Nat)), (.str (.ofString "/claim/cut.py") (888:Nat))]) #[])) ::
  (nat_lit 545, (fnO (s := mt 45 1) rfl (.type "function") .none #[] (.ofString "MachineCore.begin") (3:Nat) [] .none .none .none (.str (.ofString "postcore.machine") (629:Nat)) .none (.ref (544:Nat)) .none (0:Nat))) ::
  (nat_lit 546, (.mk (.type "tuple") .none (.seq #[] (0:Nat)) #[])) ::
  (nat_lit 548, (.mk (.type "tuple") .none (.seq #[(.str (.ofString "self") (893:Nat)), (.str (.ofString "frame") (894:Nat))] (0:Nat)) #[])) ::
  (nat_lit 549, (.mk (.type "tuple") .none (.seq #[] (0:Nat)) #[])) ::
  (nat_lit 551, (.mk (.type "code") .none (.fields #[(.str (.ofString "push_frame") (890:Nat)), (.str (.ofString "MachineCore.push_frame") (891:Nat)), (.str (.ofString "/claim/cut.py") (892:Nat)), (.int 256 (0:Nat)), (.int 2 (0:Nat)), (.int 0 (0:Nat)), (.int 0 (0:Nat)), (.int 3 (0:Nat)), (.ref (546:Nat)), (.bool .true), (.int 181 (0:Nat)), (.ref (547:Nat)), .none, (.ref (548:Nat)), (.ref (549:Nat)), (.ref (550:Nat)), (.int 895 (0:Nat)), (.int 256 (0:Nat)), (.str (.ofString "/claim/cut.py") (896:Nat))]) #[])) ::
  (nat_lit 552, (fnO (s := mt 45 2) rfl (.type "function") .none #[] (.ofString "MachineCore.push_frame") (3:Nat) [] .none .none .none (.str (.ofString "postcore.machine") (629:Nat)) .none (.ref (551:Nat)) .none (0:Nat))) ::
  (nat_lit 553, (.mk (.type "tuple") .none (.seq #[] (0:Nat)) #[])) ::
  (nat_lit 555, (.mk (.type "tuple") .none (.seq #[(.str (.ofString "self") (901:Nat)), (.str (.ofString "frame") (902:Nat)), (.str (.ofString "at") (903:Nat))] (0:Nat)) #[])) ::
  (nat_lit 556, (.mk (.type "tuple") .none (.seq #[] (0:Nat)) #[])) ::
  (nat_lit 558, (.mk (.type "code") .none (.fields #[(.str (.ofString "drop") (898:Nat)), (.str (.ofString "MachineCore.drop") (899:Nat)), (.str (.ofString "/claim/cut.py") (900:Nat)), (.int 261 (0:Nat)), (.int 2 (0:Nat)), (.int 0 (0:Nat)), (.int 0 (0:Nat)), (.int 3 (0:Nat)), (.ref (553:Nat)), (.bool .true), (.int 181 (0:Nat)), (.ref (554:Nat)), .none, (.ref (555:Nat)), (.ref (556:Nat)), (.ref (557:Nat)), (.int 904 (0:Nat)), (.int 261 (0:Nat)), (.str (.ofString "/claim/cut.py") (905:Nat))]) #[])) ::
  (nat_lit 559, (fnO (s := mt 45 3) rfl (.type "function") .none #[] (.ofString "MachineCore.drop") (3:Nat) [] .none .none .none (.str (.ofString "postcore.machine") (629:Nat)) .none (.ref (558:Nat)) .none (0:Nat))) ::
  (nat_lit 560, (.mk (.type "tuple") .none (.seq #[] (0:Nat)) #[])) ::
  (nat_lit 562, (.mk (.type "tuple") .none (.seq #[(.str (.ofString "self") (910:Nat)), (.str (.ofString "many") (911:Nat)), (.str (.ofString "frame") (912:Nat))] (0:Nat)) #[])) ::
  (nat_lit 563, (.mk (.type "tuple") .none (.seq #[] (0:Nat)) #[])) ::
  (nat_lit 565, (.mk (.type "code") .none (.fields #[(.str (.ofString "cut_frames") (907:Nat)), (.str (.ofString "MachineCore.cut_frames") (908:Nat)), (.str (.ofString "/claim/cut.py") (909:Nat)), (.int 267 (0:Nat)), (.int 2 (0:Nat)), (.int 0 (0:Nat)), (.int 0 (0:Nat)), (.int 3 (0:Nat)), (.ref (560:Nat)), (.bool .true), (.int 181 (0:Nat)), (.ref (561:Nat)), .none, (.ref (562:Nat)), (.ref (563:Nat)), (.ref (564:Nat)), (.int 913 (0:Nat)), (.int 267 (0:Nat)), (.str (.ofString "/claim/cut.py") (914:Nat))]) #[])) ::
  (nat_lit 566, (fnO (s := mt 45 4) rfl (.type "function") .none #[] (.ofString "MachineCore.cut_frames") (3:Nat) [] .none .none .none (.str (.ofString "postcore.machine") (629:Nat)) .none (.ref (565:Nat)) .none (0:Nat))) ::
  (nat_lit 567, (.mk (.type "tuple") .none (.seq #[] (0:Nat)) #[])) ::
  (nat_lit 569, (.mk (.type "tuple") .none (.seq #[(.str (.ofString "self") (919:Nat))] (0:Nat)) #[])) ::
  (nat_lit 570, (.mk (.type "tuple") .none (.seq #[] (0:Nat)) #[])) ::
  (nat_lit 572, (.mk (.type "code") .none (.fields #[(.str (.ofString "frames_row") (916:Nat)), (.str (.ofString "MachineCore.frames_row") (917:Nat)), (.str (.ofString "/claim/cut.py") (918:Nat)), (.int 272 (0:Nat)), (.int 1 (0:Nat)), (.int 0 (0:Nat)), (.int 0 (0:Nat)), (.int 3 (0:Nat)), (.ref (567:Nat)), (.bool .true), (.int 181 (0:Nat)), (.ref (568:Nat)), .none, (.ref (569:Nat)), (.ref (570:Nat)), (.ref (571:Nat)), (.int 920 (0:Nat)), (.int 272 (0:Nat)), (.str (.ofString "/claim/cut.py") (921:Nat))]) #[])) ::
  (nat_lit 573, (fnO (s := mt 45 5) rfl (.type "function") .none #[] (.ofString "MachineCore.frames_row") (3:Nat) [] .none .none .none (.str (.ofString "postcore.machine") (629:Nat)) .none (.ref (572:Nat)) .none (0:Nat))) ::
  (nat_lit 574, (.mk (.type "tuple") .none (.seq #[] (0:Nat)) #[])) ::
  (nat_lit 575, (.mk (.type "tuple") .none (.seq #[(.ref (574:Nat))] (0:Nat)) #[])) ::
  (nat_lit 576, (.mk (.type "tuple") .none (.seq #[] (0:Nat)) #[])) ::
  (nat_lit 578, (.mk (.type "tuple") .none (.seq #[(.str (.ofString "self") (926:Nat)), (.str (.ofString "words") (927:Nat)), (.str (.ofString "barriers") (928:Nat)), (.str (.ofString "at") (929:Nat))] (0:Nat)) #[])) ::
  (nat_lit 579, (.mk (.type "tuple") .none (.seq #[] (0:Nat)) #[])) ::
  (nat_lit 581, (.mk (.type "code") .none (.fields #[(.str (.ofString "place_of_frame") (923:Nat)), (.str (.ofString "MachineCore.place_of_frame") (924:Nat)), (.str (.ofString "/claim/cut.py") (925:Nat)), (.int 275 (0:Nat)), (.int 3 (0:Nat)), (.int 0 (0:Nat)), (.int 0 (0:Nat)), (.int 3 (0:Nat)), (.ref (576:Nat)), (.bool .true), (.int 181 (0:Nat)), (.ref (577:Nat)), .none, (.ref (578:Nat)), (.ref (579:Nat)), (.ref (580:Nat)), (.int 930 (0:Nat)), (.int 275 (0:Nat)), (.str (.ofString "/claim/cut.py") (931:Nat))]) #[])) ::
  (nat_lit 582, (fnO (s := mt 45 6) rfl (.type "function") .none #[] (.ofString "MachineCore.place_of_frame") (3:Nat) [] (.ref (575:Nat)) .none .none (.str (.ofString "postcore.machine") (629:Nat)) .none (.ref (581:Nat)) .none (0:Nat))) ::
  (nat_lit 583, (.mk (.type "tuple") .none (.seq #[] (0:Nat)) #[])) ::
  (nat_lit 585, (.mk (.type "tuple") .none (.seq #[(.str (.ofString "self") (936:Nat)), (.str (.ofString "at") (937:Nat))] (0:Nat)) #[])) ::
  (nat_lit 586, (.mk (.type "tuple") .none (.seq #[] (0:Nat)) #[])) ::
  (nat_lit 588, (.mk (.type "code") .none (.fields #[(.str (.ofString "stop") (933:Nat)), (.str (.ofString "MachineCore.stop") (934:Nat)), (.str (.ofString "/claim/cut.py") (935:Nat)), (.int 283 (0:Nat)), (.int 1 (0:Nat)), (.int 0 (0:Nat)), (.int 0 (0:Nat)), (.int 3 (0:Nat)), (.ref (583:Nat)), (.bool .true), (.int 181 (0:Nat)), (.ref (584:Nat)), .none, (.ref (585:Nat)), (.ref (586:Nat)), (.ref (587:Nat)), (.int 938 (0:Nat)), (.int 283 (0:Nat)), (.str (.ofString "/claim/cut.py") (939:Nat))]) #[])) ::
  (nat_lit 589, (fnO (s := mt 45 7) rfl (.type "function") .none #[] (.ofString "MachineCore.stop") (3:Nat) [] .none .none .none (.str (.ofString "postcore.machine") (629:Nat)) .none (.ref (588:Nat)) .none (0:Nat))) ::
  (nat_lit 590, (.mk (.type "tuple") .none (.seq #[] (0:Nat)) #[])) ::
  (nat_lit 592, (.mk (.type "tuple") .none (.seq #[(.str (.ofString "self") (944:Nat)), (.str (.ofString "word") (945:Nat)), (.str (.ofString "thing") (946:Nat))] (0:Nat)) #[])) ::
  (nat_lit 593, (.mk (.type "tuple") .none (.seq #[] (0:Nat)) #[])) ::
  (nat_lit 595, (.mk (.type "code") .none (.fields #[(.str (.ofString "trace") (941:Nat)), (.str (.ofString "MachineCore.trace") (942:Nat)), (.str (.ofString "/claim/cut.py") (943:Nat)), (.int 292 (0:Nat)), (.int 3 (0:Nat)), (.int 0 (0:Nat)), (.int 0 (0:Nat)), (.int 3 (0:Nat)), (.ref (590:Nat)), (.bool .true), (.int 181 (0:Nat)), (.ref (591:Nat)), .none, (.ref (592:Nat)), (.ref (593:Nat)), (.ref (594:Nat)), (.int 947 (0:Nat)), (.int 292 (0:Nat)), (.str (.ofString "/claim/cut.py") (948:Nat))]) #[])) ::
  (nat_lit 596, (fnO (s := mt 45 8) rfl (.type "function") .none #[] (.ofString "MachineCore.trace") (3:Nat) [] .none .none .none (.str (.ofString "postcore.machine") (629:Nat)) .none (.ref (595:Nat)) .none (0:Nat))) ::
  (nat_lit 597, (.mk (.type "tuple") .none (.seq #[] (0:Nat)) #[])) ::
  (nat_lit 599, (.mk (.type "tuple") .none (.seq #[(.str (.ofString "self") (953:Nat)), (.str (.ofString "thing") (954:Nat))] (0:Nat)) #[])) ::
  (nat_lit 600, (.mk (.type "tuple") .none (.seq #[] (0:Nat)) #[])) ::
  (nat_lit 602, (.mk (.type "code") .none (.fields #[(.str (.ofString "push_operand") (950:Nat)), (.str (.ofString "MachineCore.push_operand") (951:Nat)), (.str (.ofString "/claim/cut.py") (952:Nat)), (.int 296 (0:Nat)), (.int 2 (0:Nat)), (.int 0 (0:Nat)), (.int 0 (0:Nat)), (.int 3 (0:Nat)), (.ref (597:Nat)), (.bool .true), (.int 181 (0:Nat)), (.ref (598:Nat)), .none, (.ref (599:Nat)), (.ref (600:Nat)), (.ref (601:Nat)), (.int 955 (0:Nat)), (.int 296 (0:Nat)), (.str (.ofString "/claim/cut.py") (956:Nat))]) #[])) ::
  (nat_lit 603, (fnO (s := mt 45 9) rfl (.type "function") .none #[] (.ofString "MachineCore.push_operand") (3:Nat) [] .none .none .none (.str (.ofString "postcore.machine") (629:Nat)) .none (.ref (602:Nat)) .none (0:Nat))) ::
  (nat_lit 604, (.mk (.type "tuple") .none (.seq #[] (0:Nat)) #[])) ::
  (nat_lit 606, (.mk (.type "tuple") .none (.seq #[(.str (.ofString "self") (961:Nat)), (.str (.ofString "thing") (962:Nat))] (0:Nat)) #[])) ::
  (nat_lit 607, (.mk (.type "tuple") .none (.seq #[] (0:Nat)) #[])) ::
  (nat_lit 609, (.mk (.type "code") .none (.fields #[(.str (.ofString "met") (958:Nat)), (.str (.ofString "MachineCore.met") (959:Nat)), (.str (.ofString "/claim/cut.py") (960:Nat)), (.int 300 (0:Nat)), (.int 2 (0:Nat)), (.int 0 (0:Nat)), (.int 0 (0:Nat)), (.int 3 (0:Nat)), (.ref (604:Nat)), (.bool .true), (.int 181 (0:Nat)), (.ref (605:Nat)), .none, (.ref (606:Nat)), (.ref (607:Nat)), (.ref (608:Nat)), (.int 963 (0:Nat)), (.int 300 (0:Nat)), (.str (.ofString "/claim/cut.py") (964:Nat))]) #[])) ::
  (nat_lit 610, (fnO (s := mt 45 10) rfl (.type "function") .none #[] (.ofString "MachineCore.met") (3:Nat) [] .none .none .none (.str (.ofString "postcore.machine") (629:Nat)) .none (.ref (609:Nat)) .none (0:Nat))) ::
  (nat_lit 611, (.mk (.type "tuple") .none (.seq #[] (0:Nat)) #[])) ::
  (nat_lit 613, (.mk (.type "tuple") .none (.seq #[(.str (.ofString "self") (969:Nat)), (.str (.ofString "thing") (970:Nat))] (0:Nat)) #[])) ::
  (nat_lit 614, (.mk (.type "tuple") .none (.seq #[] (0:Nat)) #[])) ::
  (nat_lit 616, (.mk (.type "code") .none (.fields #[(.str (.ofString "execute") (966:Nat)), (.str (.ofString "MachineCore.execute") (967:Nat)), (.str (.ofString "/claim/cut.py") (968:Nat)), (.int 312 (0:Nat)), (.int 2 (0:Nat)), (.int 0 (0:Nat)), (.int 0 (0:Nat)), (.int 3 (0:Nat)), (.ref (611:Nat)), (.bool .true), (.int 181 (0:Nat)), (.ref (612:Nat)), .none, (.ref (613:Nat)), (.ref (614:Nat)), (.ref (615:Nat)), (.int 971 (0:Nat)), (.int 312 (0:Nat)), (.str (.ofString "/claim/cut.py") (972:Nat))]) #[])) ::
  (nat_lit 617, (fnO (s := mt 45 11) rfl (.type "function") .none #[] (.ofString "MachineCore.execute") (3:Nat) [] .none .none .none (.str (.ofString "postcore.machine") (629:Nat)) .none (.ref (616:Nat)) .none (0:Nat))) ::
  (nat_lit 618, (.mk (.type "tuple") .none (.seq #[] (0:Nat)) #[])) ::
  (nat_lit 620, (.mk (.type "tuple") .none (.seq #[(.str (.ofString "self") (977:Nat)), (.str (.ofString "thing") (978:Nat))] (0:Nat)) #[])) ::
  (nat_lit 621, (.mk (.type "tuple") .none (.seq #[] (0:Nat)) #[])) ::
  (nat_lit 623, (.mk (.type "code") .none (.fields #[(.str (.ofString "run_proc") (974:Nat)), (.str (.ofString "MachineCore.run_proc") (975:Nat)), (.str (.ofString "/claim/cut.py") (976:Nat)), (.int 318 (0:Nat)), (.int 2 (0:Nat)), (.int 0 (0:Nat)), (.int 0 (0:Nat)), (.int 3 (0:Nat)), (.ref (618:Nat)), (.bool .true), (.int 181 (0:Nat)), (.ref (619:Nat)), .none, (.ref (620:Nat)), (.ref (621:Nat)), (.ref (622:Nat)), (.int 979 (0:Nat)), (.int 318 (0:Nat)), (.str (.ofString "/claim/cut.py") (980:Nat))]) #[])) ::
  (nat_lit 624, (fnO (s := mt 45 12) rfl (.type "function") .none #[] (.ofString "MachineCore.run_proc") (3:Nat) [] .none .none .none (.str (.ofString "postcore.machine") (629:Nat)) .none (.ref (623:Nat)) .none (0:Nat))) ::
  (nat_lit 625, (.mk (.type "tuple") .none (.seq #[] (0:Nat)) #[])) ::
  (nat_lit 627, (.mk (.type "tuple") .none (.seq #[(.str (.ofString "self") (985:Nat)), (.str (.ofString "thing") (986:Nat))] (0:Nat)) #[])) ::
  (nat_lit 628, (.mk (.type "tuple") .none (.seq #[] (0:Nat)) #[])) ::
  (nat_lit 630, (.mk (.type "code") .none (.fields #[(.str (.ofString "run_source") (982:Nat)), (.str (.ofString "MachineCore.run_source") (983:Nat)), (.str (.ofString "/claim/cut.py") (984:Nat)), (.int 324 (0:Nat)), (.int 2 (0:Nat)), (.int 0 (0:Nat)), (.int 0 (0:Nat)), (.int 3 (0:Nat)), (.ref (625:Nat)), (.bool .true), (.int 181 (0:Nat)), (.ref (626:Nat)), .none, (.ref (627:Nat)), (.ref (628:Nat)), (.ref (629:Nat)), (.int 987 (0:Nat)), (.int 324 (0:Nat)), (.str (.ofString "/claim/cut.py") (988:Nat))]) #[])) ::
  (nat_lit 631, (fnO (s := mt 45 13) rfl (.type "function") .none #[] (.ofString "MachineCore.run_source") (3:Nat) [] .none .none .none (.str (.ofString "postcore.machine") (629:Nat)) .none (.ref (630:Nat)) .none (0:Nat))) ::
  (nat_lit 632, (.mk (.type "tuple") .none (.seq #[] (0:Nat)) #[])) ::
  (nat_lit 634, (.mk (.type "tuple") .none (.seq #[(.str (.ofString "self") (993:Nat)), (.str (.ofString "octets") (994:Nat))] (0:Nat)) #[])) ::
  (nat_lit 635, (.mk (.type "tuple") .none (.seq #[] (0:Nat)) #[])) ::
  (nat_lit 637, (.mk (.type "code") .none (.fields #[(.str (.ofString "lookup") (990:Nat)), (.str (.ofString "MachineCore.lookup") (991:Nat)), (.str (.ofString "/claim/cut.py") (992:Nat)), (.int 332 (0:Nat)), (.int 2 (0:Nat)), (.int 0 (0:Nat)), (.int 0 (0:Nat)), (.int 3 (0:Nat)), (.ref (632:Nat)), (.bool .true), (.int 181 (0:Nat)), (.ref (633:Nat)), .none, (.ref (634:Nat)), (.ref (635:Nat)), (.ref (636:Nat)), (.int 995 (0:Nat)), (.int 332 (0:Nat)), (.str (.ofString "/claim/cut.py") (996:Nat))]) #[])) ::
  (nat_lit 638, (fnO (s := mt 45 14) rfl (.type "function") .none #[] (.ofString "MachineCore.lookup") (3:Nat) [] .none .none .none (.str (.ofString "postcore.machine") (629:Nat)) .none (.ref (637:Nat)) .none (0:Nat))) ::
  (nat_lit 639, (.mk (.type "tuple") .none (.seq #[] (0:Nat)) #[])) ::
  (nat_lit 641, (.mk (.type "tuple") .none (.seq #[(.str (.ofString "self") (1001:Nat)), (.str (.ofString "thing") (1002:Nat)), (.str (.ofString "found") (1003:Nat))] (0:Nat)) #[])) ::
  (nat_lit 642, (.mk (.type "tuple") .none (.seq #[] (0:Nat)) #[])) ::
  (nat_lit 644, (.mk (.type "code") .none (.fields #[(.str (.ofString "value_of") (998:Nat)), (.str (.ofString "MachineCore.value_of") (999:Nat)), (.str (.ofString "/claim/cut.py") (1000:Nat)), (.int 335 (0:Nat)), (.int 2 (0:Nat)), (.int 0 (0:Nat)), (.int 0 (0:Nat)), (.int 3 (0:Nat)), (.ref (639:Nat)), (.bool .true), (.int 181 (0:Nat)), (.ref (640:Nat)), .none, (.ref (641:Nat)), (.ref (642:Nat)), (.ref (643:Nat)), (.int 1004 (0:Nat)), (.int 335 (0:Nat)), (.str (.ofString "/claim/cut.py") (1005:Nat))]) #[])) ::
  (nat_lit 645, (fnO (s := mt 45 15) rfl (.type "function") .none #[] (.ofString "MachineCore.value_of") (3:Nat) [] .none .none .none (.str (.ofString "postcore.machine") (629:Nat)) .none (.ref (644:Nat)) .none (0:Nat))) ::
  (nat_lit 646, (.mk (.type "tuple") .none (.seq #[] (0:Nat)) #[])) ::
  (nat_lit 648, (.mk (.type "tuple") .none (.seq #[(.str (.ofString "self") (1010:Nat)), (.str (.ofString "thing") (1011:Nat)), (.str (.ofString "value") (1012:Nat))] (0:Nat)) #[])) ::
  (nat_lit 649, (.mk (.type "tuple") .none (.seq #[] (0:Nat)) #[])) ::
  (nat_lit 651, (.mk (.type "code") .none (.fields #[(.str (.ofString "run_name") (1007:Nat)), (.str (.ofString "MachineCore.run_name") (1008:Nat)), (.str (.ofString "/claim/cut.py") (1009:Nat)), (.int 341 (0:Nat)), (.int 2 (0:Nat)), (.int 0 (0:Nat)), (.int 0 (0:Nat)), (.int 3 (0:Nat)), (.ref (646:Nat)), (.bool .true), (.int 181 (0:Nat)), (.ref (647:Nat)), .none, (.ref (648:Nat)), (.ref (649:Nat)), (.ref (650:Nat)), (.int 1013 (0:Nat)), (.int 341 (0:Nat)), (.str (.ofString "/claim/cut.py") (1014:Nat))]) #[])) ::
  (nat_lit 652, (fnO (s := mt 45 16) rfl (.type "function") .none #[] (.ofString "MachineCore.run_name") (3:Nat) [] .none .none .none (.str (.ofString "postcore.machine") (629:Nat)) .none (.ref (651:Nat)) .none (0:Nat))) ::
  (nat_lit 653, (.mk (.type "tuple") .none (.seq #[] (0:Nat)) #[])) ::
  (nat_lit 655, (.mk (.type "tuple") .none (.seq #[(.str (.ofString "self") (1019:Nat)), (.str (.ofString "thing") (1020:Nat)), (.str (.ofString "act") (1021:Nat)), (.str (.ofString "kept") (1022:Nat)), (.str (.ofString "error") (1023:Nat))] (0:Nat)) #[])) ::
  (nat_lit 656, (.mk (.type "tuple") .none (.seq #[] (0:Nat)) #[])) ::
  (nat_lit 658, (.mk (.type "code") .none (.fields #[(.str (.ofString "call") (1016:Nat)), (.str (.ofString "MachineCore.call") (1017:Nat)), (.str (.ofString "/claim/cut.py") (1018:Nat)), (.int 350 (0:Nat)), (.int 2 (0:Nat)), (.int 0 (0:Nat)), (.int 0 (0:Nat)), (.int 3 (0:Nat)), (.ref (653:Nat)), (.bool .true), (.int 181 (0:Nat)), (.ref (654:Nat)), .none, (.ref (655:Nat)), (.ref (656:Nat)), (.ref (657:Nat)), (.int 1024 (0:Nat)), (.int 350 (0:Nat)), (.str (.ofString "/claim/cut.py") (1025:Nat))]) #[])) ::
  (nat_lit 659, (fnO (s := mt 45 17) rfl (.type "function") .none #[] (.ofString "MachineCore.call") (3:Nat) [] .none .none .none (.str (.ofString "postcore.machine") (629:Nat)) .none (.ref (658:Nat)) .none (0:Nat))) ::
  (nat_lit 660, (.mk (.type "tuple") .none (.seq #[] (0:Nat)) #[])) ::
  (nat_lit 662, (.mk (.type "tuple") .none (.seq #[(.str (.ofString "self") (1030:Nat)), (.str (.ofString "source") (1031:Nat))] (0:Nat)) #[])) ::
  (nat_lit 663, (.mk (.type "tuple") .none (.seq #[] (0:Nat)) #[])) ::
  (nat_lit 665, (.mk (.type "code") .none (.fields #[(.str (.ofString "scanned") (1027:Nat)), (.str (.ofString "MachineCore.scanned") (1028:Nat)), (.str (.ofString "/claim/cut.py") (1029:Nat)), (.int 365 (0:Nat)), (.int 2 (0:Nat)), (.int 0 (0:Nat)), (.int 0 (0:Nat)), (.int 3 (0:Nat)), (.ref (660:Nat)), (.bool .true), (.int 181 (0:Nat)), (.ref (661:Nat)), .none, (.ref (662:Nat)), (.ref (663:Nat)), (.ref (664:Nat)), (.int 1032 (0:Nat)), (.int 365 (0:Nat)), (.str (.ofString "/claim/cut.py") (1033:Nat))]) #[])) ::
  (nat_lit 666, (fnO (s := mt 45 18) rfl (.type "function") .none #[] (.ofString "MachineCore.scanned") (3:Nat) [] .none .none .none (.str (.ofString "postcore.machine") (629:Nat)) .none (.ref (665:Nat)) .none (0:Nat))) ::
  (nat_lit 667, (.mk (.type "tuple") .none (.seq #[] (0:Nat)) #[])) ::
  (nat_lit 669, (.mk (.type "tuple") .none (.seq #[(.str (.ofString "self") (1038:Nat)), (.str (.ofString "octets") (1039:Nat))] (0:Nat)) #[])) ::
  (nat_lit 670, (.mk (.type "tuple") .none (.seq #[] (0:Nat)) #[])) ::
  (nat_lit 672, (.mk (.type "code") .none (.fields #[(.str (.ofString "tell") (1035:Nat)), (.str (.ofString "MachineCore.tell") (1036:Nat)), (.str (.ofString "/claim/cut.py") (1037:Nat)), (.int 368 (0:Nat)), (.int 2 (0:Nat)), (.int 0 (0:Nat)), (.int 0 (0:Nat)), (.int 3 (0:Nat)), (.ref (667:Nat)), (.bool .true), (.int 181 (0:Nat)), (.ref (668:Nat)), .none, (.ref (669:Nat)), (.ref (670:Nat)), (.ref (671:Nat)), (.int 1040 (0:Nat)), (.int 368 (0:Nat)), (.str (.ofString "/claim/cut.py") (1041:Nat))]) #[])) ::
  (nat_lit 673, (fnO (s := mt 45 19) rfl (.type "function") .none #[] (.ofString "MachineCore.tell") (3:Nat) [] .none .none .none (.str (.ofString "postcore.machine") (629:Nat)) .none (.ref (672:Nat)) .none (0:Nat))) ::
  (nat_lit 674, (.mk (.type "tuple") .none (.seq #[] (0:Nat)) #[])) ::
  (nat_lit 676, (.mk (.type "tuple") .none (.seq #[(.str (.ofString "self") (1046:Nat)), (.str (.ofString "told") (1047:Nat)), (.str (.ofString "thing") (1048:Nat)), (.str (.ofString "act") (1049:Nat))] (0:Nat)) #[])) ::
  (nat_lit 677, (.mk (.type "tuple") .none (.seq #[] (0:Nat)) #[])) ::
  (nat_lit 679, (.mk (.type "code") .none (.fields #[(.str (.ofString "failed") (1043:Nat)), (.str (.ofString "MachineCore.failed") (1044:Nat)), (.str (.ofString "/claim/cut.py") (1045:Nat)), (.int 372 (0:Nat)), (.int 3 (0:Nat)), (.int 0 (0:Nat)), (.int 0 (0:Nat)), (.int 3 (0:Nat)), (.ref (674:Nat)), (.bool .true), (.int 181 (0:Nat)), (.ref (675:Nat)), .none, (.ref (676:Nat)), (.ref (677:Nat)), (.ref (678:Nat)), (.int 1050 (0:Nat)), (.int 372 (0:Nat)), (.str (.ofString "/claim/cut.py") (1051:Nat))]) #[])) ::
  (nat_lit 680, (fnO (s := mt 45 20) rfl (.type "function") .none #[] (.ofString "MachineCore.failed") (3:Nat) [] .none .none .none (.str (.ofString "postcore.machine") (629:Nat)) .none (.ref (679:Nat)) .none (0:Nat))) ::
  (nat_lit 681, (.mk (.type "tuple") .none (.seq #[] (0:Nat)) #[])) ::
  (nat_lit 683, (.mk (.type "tuple") .none (.seq #[(.str (.ofString "self") (1056:Nat)), (.str (.ofString "frame") (1057:Nat)), (.str (.ofString "error") (1058:Nat))] (0:Nat)) #[])) ::
  (nat_lit 684, (.mk (.type "tuple") .none (.seq #[] (0:Nat)) #[])) ::
  (nat_lit 686, (.mk (.type "code") .none (.fields #[(.str (.ofString "step") (1053:Nat)), (.str (.ofString "MachineCore.step") (1054:Nat)), (.str (.ofString "/claim/cut.py") (1055:Nat)), (.int 380 (0:Nat)), (.int 1 (0:Nat)), (.int 0 (0:Nat)), (.int 0 (0:Nat)), (.int 3 (0:Nat)), (.ref (681:Nat)), (.bool .true), (.int 181 (0:Nat)), (.ref (682:Nat)), .none, (.ref (683:Nat)), (.ref (684:Nat)), (.ref (685:Nat)), (.int 1059 (0:Nat)), (.int 380 (0:Nat)), (.str (.ofString "/claim/cut.py") (1060:Nat))]) #[])) ::
  (nat_lit 687, (fnO (s := mt 45 21) rfl (.type "function") .none #[] (.ofString "MachineCore.step") (3:Nat) [] .none .none .none (.str (.ofString "postcore.machine") (629:Nat)) .none (.ref (686:Nat)) .none (0:Nat))) ::
  (nat_lit 688, (.mk (.type "tuple") .none (.seq #[(.int 0 (1062:Nat))] (0:Nat)) #[])) ::
  (nat_lit 689, (.mk (.type "tuple") .none (.seq #[] (0:Nat)) #[])) ::
  (nat_lit 691, (.mk (.type "tuple") .none (.seq #[(.str (.ofString "self") (1066:Nat)), (.str (.ofString "most_steps") (1067:Nat)), (.str (.ofString "depth") (1068:Nat)), (.str (.ofString "last") (1069:Nat))] (0:Nat)) #[])) ::
  (nat_lit 692, (.mk (.type "tuple") .none (.seq #[] (0:Nat)) #[])) ::
  (nat_lit 694, (.mk (.type "code") .none (.fields #[(.str (.ofString "go_on") (1063:Nat)), (.str (.ofString "MachineCore.go_on") (1064:Nat)), (.str (.ofString "/claim/cut.py") (1065:Nat)), (.int 391 (0:Nat)), (.int 3 (0:Nat)), (.int 0 (0:Nat)), (.int 0 (0:Nat)), (.int 3 (0:Nat)), (.ref (689:Nat)), (.bool .true), (.int 181 (0:Nat)), (.ref (690:Nat)), .none, (.ref (691:Nat)), (.ref (692:Nat)), (.ref (693:Nat)), (.int 1070 (0:Nat)), (.int 391 (0:Nat)), (.str (.ofString "/claim/cut.py") (1071:Nat))]) #[])) ::
  (nat_lit 695, (fnO (s := mt 45 22) rfl (.type "function") .none #[] (.ofString "MachineCore.go_on") (3:Nat) [] (.ref (688:Nat)) .none .none (.str (.ofString "postcore.machine") (629:Nat)) .none (.ref (694:Nat)) .none (0:Nat))) ::
  (nat_lit 696, (.mk (.type "tuple") .none (.seq #[] (0:Nat)) #[])) ::
  (nat_lit 698, (.mk (.type "tuple") .none (.seq #[(.str (.ofString "self") (1076:Nat)), (.str (.ofString "octets") (1077:Nat)), (.str (.ofString "most_steps") (1078:Nat))] (0:Nat)) #[])) ::
  (nat_lit 699, (.mk (.type "tuple") .none (.seq #[] (0:Nat)) #[])) ::
  (nat_lit 701, (.mk (.type "code") .none (.fields #[(.str (.ofString "run") (1073:Nat)), (.str (.ofString "MachineCore.run") (1074:Nat)), (.str (.ofString "/claim/cut.py") (1075:Nat)), (.int 404 (0:Nat)), (.int 3 (0:Nat)), (.int 0 (0:Nat)), (.int 0 (0:Nat)), (.int 3 (0:Nat)), (.ref (696:Nat)), (.bool .true), (.int 181 (0:Nat)), (.ref (697:Nat)), .none, (.ref (698:Nat)), (.ref (699:Nat)), (.ref (700:Nat)), (.int 1079 (0:Nat)), (.int 404 (0:Nat)), (.str (.ofString "/claim/cut.py") (1080:Nat))]) #[])) ::
  (nat_lit 702, (fnO (s := mt 45 23) rfl (.type "function") .none #[] (.ofString "MachineCore.run") (3:Nat) [] .none .none .none (.str (.ofString "postcore.machine") (629:Nat)) .none (.ref (701:Nat)) .none (0:Nat))) ::
  (nat_lit 703, (.mk (.type "tuple") .none (.seq #[] (0:Nat)) #[])) ::
  (nat_lit 705, (.mk (.type "tuple") .none (.seq #[(.str (.ofString "self") (1085:Nat)), (.str (.ofString "thing") (1086:Nat)), (.str (.ofString "most_steps") (1087:Nat))] (0:Nat)) #[])) ::
  (nat_lit 706, (.mk (.type "tuple") .none (.seq #[] (0:Nat)) #[])) ::
  (nat_lit 708, (.mk (.type "code") .none (.fields #[(.str (.ofString "run_thing") (1082:Nat)), (.str (.ofString "MachineCore.run_thing") (1083:Nat)), (.str (.ofString "/claim/cut.py") (1084:Nat)), (.int 408 (0:Nat)), (.int 3 (0:Nat)), (.int 0 (0:Nat)), (.int 0 (0:Nat)), (.int 3 (0:Nat)), (.ref (703:Nat)), (.bool .true), (.int 181 (0:Nat)), (.ref (704:Nat)), .none, (.ref (705:Nat)), (.ref (706:Nat)), (.ref (707:Nat)), (.int 1088 (0:Nat)), (.int 408 (0:Nat)), (.str (.ofString "/claim/cut.py") (1089:Nat))]) #[])) ::
  (nat_lit 709, (fnO (s := mt 45 24) rfl (.type "function") .none #[] (.ofString "MachineCore.run_thing") (3:Nat) [] .none .none .none (.str (.ofString "postcore.machine") (629:Nat)) .none (.ref (708:Nat)) .none (0:Nat))) ::
  (nat_lit 710, (.mk (.type "tuple") .none (.seq #[] (0:Nat)) #[])) ::
  (nat_lit 712, (.mk (.type "tuple") .none (.seq #[(.str (.ofString "self") (1094:Nat)), (.str (.ofString "tables") (1095:Nat))] (0:Nat)) #[])) ::
  (nat_lit 713, (.mk (.type "tuple") .none (.seq #[] (0:Nat)) #[])) ::
  (nat_lit 715, (.mk (.type "code") .none (.fields #[(.str (.ofString "install") (1091:Nat)), (.str (.ofString "MachineCore.install") (1092:Nat)), (.str (.ofString "/claim/cut.py") (1093:Nat)), (.int 411 (0:Nat)), (.int 2 (0:Nat)), (.int 0 (0:Nat)), (.int 0 (0:Nat)), (.int 3 (0:Nat)), (.ref (710:Nat)), (.bool .true), (.int 181 (0:Nat)), (.ref (711:Nat)), .none, (.ref (712:Nat)), (.ref (713:Nat)), (.ref (714:Nat)), (.int 1096 (0:Nat)), (.int 411 (0:Nat)), (.str (.ofString "/claim/cut.py") (1097:Nat))]) #[])) ::
  (nat_lit 716, (fnO (s := mt 45 25) rfl (.type "function") .none #[] (.ofString "MachineCore.install") (3:Nat) [] .none .none .none (.str (.ofString "postcore.machine") (629:Nat)) .none (.ref (715:Nat)) .none (0:Nat))) ::
  (nat_lit 717, (.mk (.type "tuple") .none (.seq #[(.str (.ofString "current") (1099:Nat)), (.str (.ofString "device") (1100:Nat)), (.str (.ofString "dicts") (1101:Nat)), (.str (.ofString "disk") (1102:Nat)), (.str (.ofString "errors") (1103:Nat)), (.str (.ofString "fault") (1104:Nat)), (.str (.ofString "files") (1105:Nat)), (.str (.ofString "fonts") (1106:Nat)), (.str (.ofString "frames") (1107:Nat)), (.str (.ofString "globals") (1108:Nat)), (.str (.ofString "gs") (1109:Nat)), (.str (.ofString "gstack") (1110:Nat)), (.str (.ofString "is_packing") (1111:Nat)), (.str (.ofString "is_stopped") (1112:Nat)), (.str (.ofString "limits") (1113:Nat)), (.str (.ofString "memory") (1114:Nat)), (.str (.ofString "operands") (1115:Nat)), (.str (.ofString "out") (1116:Nat)), (.str (.ofString "random") (1117:Nat)), (.str (.ofString "resources") (1118:Nat)), (.str (.ofString "scanner") (1119:Nat)), (.str (.ofString "steps") (1120:Nat)), (.str (.ofString "system") (1121:Nat)), (.str (.ofString "table") (1122:Nat)), (.str (.ofString "tracer") (1123:Nat)), (.str (.ofString "user") (1124:Nat))] (0:Nat)) #[])) ::
  (nat_lit 718, (.mk (.type "dict") .none (.dict #[(.mk (PyData.keyHash P (.ofString "__module__")) (.str (.ofString "__module__") (859:Nat)) (.str (.ofString "postcore.machine") (629:Nat))), (.mk (PyData.keyHash P (.ofString "__firstlineno__")) (.str (.ofString "__firstlineno__") (863:Nat)) (.int 223 (862:Nat))), (.mk (PyData.keyHash P (.ofString "__init__")) (.str (.ofString "__init__") (876:Nat)) (.ref (538:Nat))), (.mk (PyData.keyHash P (.ofString "begin")) (.str (.ofString "begin") (889:Nat)) (.ref (545:Nat))), (.mk (PyData.keyHash P (.ofString "push_frame")) (.str (.ofString "push_frame") (897:Nat)) (.ref (552:Nat))), (.mk (PyData.keyHash P (.ofString "drop")) (.str (.ofString "drop") (906:Nat)) (.ref (559:Nat))), (.mk (PyData.keyHash P (.ofString "cut_frames")) (.str (.ofString "cut_frames") (915:Nat)) (.ref (566:Nat))), (.mk (PyData.keyHash P (.ofString "frames_row")) (.str (.ofString "frames_row") (922:Nat)) (.ref (573:Nat))), (.mk (PyData.keyHash P (.ofString "place_of_frame")) (.str (.ofString "place_of_frame") (932:Nat)) (.ref (582:Nat))), (.mk (PyData.keyHash P (.ofString "stop")) (.str (.ofString "stop") (940:Nat)) (.ref (589:Nat))), (.mk (PyData.keyHash P (.ofString "trace")) (.str (.ofString "trace") (949:Nat)) (.ref (596:Nat))), (.mk (PyData.keyHash P (.ofString "push_operand")) (.str (.ofString "push_operand") (957:Nat)) (.ref (603:Nat))), (.mk (PyData.keyHash P (.ofString "met")) (.str (.ofString "met") (965:Nat)) (.ref (610:Nat))), (.mk (PyData.keyHash P (.ofString "execute")) (.str (.ofString "execute") (973:Nat)) (.ref (617:Nat))), (.mk (PyData.keyHash P (.ofString "run_proc")) (.str (.ofString "run_proc") (981:Nat)) (.ref (624:Nat))), (.mk (PyData.keyHash P (.ofString "run_source")) (.str (.ofString "run_source") (989:Nat)) (.ref (631:Nat))), (.mk (PyData.keyHash P (.ofString "lookup")) (.str (.ofString "lookup") (997:Nat)) (.ref (638:Nat))), (.mk (PyData.keyHash P (.ofString "value_of")) (.str (.ofString "value_of") (1006:Nat)) (.ref (645:Nat))), (.mk (PyData.keyHash P (.ofString "run_name")) (.str (.ofString "run_name") (1015:Nat)) (.ref (652:Nat))), (.mk (PyData.keyHash P (.ofString "call")) (.str (.ofString "call") (1026:Nat)) (.ref (659:Nat))), (.mk (PyData.keyHash P (.ofString "scanned")) (.str (.ofString "scanned") (1034:Nat)) (.ref (666:Nat))), (.mk (PyData.keyHash P (.ofString "tell")) (.str (.ofString "tell") (1042:Nat)) (.ref (673:Nat))), (.mk (PyData.keyHash P (.ofString "failed")) (.str (.ofString "failed") (1052:Nat)) (.ref (680:Nat))), (.mk (PyData.keyHash P (.ofString "step")) (.str (.ofString "step") (1061:Nat)) (.ref (687:Nat))), (.mk (PyData.keyHash P (.ofString "go_on")) (.str (.ofString "go_on") (1072:Nat)) (.ref (695:Nat))), (.mk (PyData.keyHash P (.ofString "run")) (.str (.ofString "run") (1081:Nat)) (.ref (702:Nat))), (.mk (PyData.keyHash P (.ofString "run_thing")) (.str (.ofString "run_thing") (1090:Nat)) (.ref (709:Nat))), (.mk (PyData.keyHash P (.ofString "install")) (.str (.ofString "install") (1098:Nat)) (.ref (716:Nat))), (.mk (PyData.keyHash P (.ofString "__static_attributes__")) (.str (.ofString "__static_attributes__") (1125:Nat)) (.ref (717:Nat))), (.mk (PyData.keyHash P (.ofString "__dict__")) (.str (.ofString "__dict__") (1127:Nat)) (.ref (720:Nat))), (.mk (PyData.keyHash P (.ofString "__weakref__")) (.str (.ofString "__weakref__") (1129:Nat)) (.ref (721:Nat))), (.mk (PyData.keyHash P (.ofString "__doc__")) (.str (.ofString "__doc__") (1130:Nat)) .none)] (4:Nat)) #[])) ::
  (nat_lit 719, (.mk (.type "type") .none (.cls (.mk (.ofString "MachineCore") [(.type "object")] [(.ref (719:Nat)), (.type "object")] (718:Nat) (.ofString "MachineCore") .true [] [] .false .none .false)) #[.none, .none, (.some (.str (.ofString "MachineCore") (852:Nat))), (.some (.str (.ofString "MachineCore") (860:Nat))), (.some (.builtin "object.__new__")), (.some (.bool .true))])) ::
  (nat_lit 720, (.mk (.type "getset_descriptor") .none (.fields #[(.str (.ofString "__dict__") (1126:Nat)), (.ref (719:Nat)), (.builtin "function.__dict__"), (.builtin "function.__dict__#set")]) #[])) ::
  (nat_lit 721, (.mk (.type "getset_descriptor") .none (.fields #[(.str (.ofString "__weakref__") (1128:Nat)), (.ref (719:Nat)), (.builtin "ExceptionGroup.__weakref__"), .none]) #[])) ::
  (nat_lit 731, (.mk (.type "tuple") .none (.seq #[] (0:Nat)) #[])) ::
  (nat_lit 733, (.mk (.type "tuple") .none (.seq #[(.str (.ofString "self") (1150:Nat)), (.str (.ofString "most") (1151:Nat))] (0:Nat)) #[])) ::
  (nat_lit 734, (.mk (.type "tuple") .none (.seq #[] (0:Nat)) #[])) ::
  (nat_lit 736, (.mk (.type "code") .none (.fields #[(.str (.ofString "__init__") (1147:Nat)), (.str (.ofString "Stack.__init__") (1148:Nat)), (.str (.ofString "/claim/cut.py") (1149:Nat)), (.int 416 (0:Nat)), (.int 2 (0:Nat)), (.int 0 (0:Nat)), (.int 0 (0:Nat)), (.int 3 (0:Nat)), (.ref (731:Nat)), (.bool .true), (.int 181 (0:Nat)), (.ref (732:Nat)), .none, (.ref (733:Nat)), (.ref (734:Nat)), (.ref (735:Nat)), (.int 1152 (0:Nat)), (.int 416 (0:Nat)), (.str (.ofString "/claim/cut.py") (1153:Nat))]) #[])) ::
  (nat_lit 737, (fnO (s := mt 47 0) rfl (.type "function") .none #[] (.ofString "Stack.__init__") (3:Nat) [] .none .none .none (.str (.ofString "postcore.stacks") (1133:Nat)) .none (.ref (736:Nat)) .none (0:Nat))) ::
  (nat_lit 738, (.mk (.type "tuple") .none (.seq #[] (0:Nat)) #[])) ::
  (nat_lit 740, (.mk (.type "tuple") .none (.seq #[(.str (.ofString "self") (1158:Nat))] (0:Nat)) #[])) ::
  (nat_lit 741, (.mk (.type "tuple") .none (.seq #[] (0:Nat)) #[])) ::
  (nat_lit 743, (.mk (.type "code") .none (.fields #[(.str (.ofString "many") (1155:Nat)), (.str (.ofString "Stack.many") (1156:Nat)), (.str (.ofString "/claim/cut.py") (1157:Nat)), (.int 420 (0:Nat)), (.int 1 (0:Nat)), (.int 0 (0:Nat)), (.int 0 (0:Nat)), (.int 3 (0:Nat)), (.ref (738:Nat)), (.bool .true), (.int 181 (0:Nat)), (.ref (739:Nat)), .none, (.ref (740:Nat)), (.ref (741:Nat)), (.ref (742:Nat)), (.int 1159 (0:Nat)), (.int 420 (0:Nat)), (.str (.ofString "/claim/cut.py") (1160:Nat))]) #[])) ::
  (nat_lit 744, (fnO (s := mt 47 1) rfl (.type "function") .none #[] (.ofString "Stack.many") (3:Nat) [] .none .none .none (.str (.ofString "postcore.stacks") (1133:Nat)) .none (.ref (743:Nat)) .none (0:Nat))) ::
  (nat_lit 745, (.mk (.type "property") .none (.fields #[(.ref (744:Nat)), .none, .none, .none, (.str (.ofString "many") (1162:Nat)), (.bool .false)]) #[])) ::
  (nat_lit 746, (.mk (.type "tuple") .none (.seq #[] (0:Nat)) #[])) ::
  (nat_lit 748, (.mk (.type "tuple") .none (.seq #[(.str (.ofString "self") (1166:Nat)), (.str (.ofString "thing") (1167:Nat))] (0:Nat)) #[])) ::
  (nat_lit 749, (.mk (.type "tuple") .none (.seq #[] (0:Nat)) #[])) ::
  (nat_lit 751, (.mk (.type "code") .none (.fields #[(.str (.ofString "push") (1163:Nat)), (.str (.ofString "Stack.push") (1164:Nat)), (.str (.ofString "/claim/cut.py") (1165:Nat)), (.int 424 (0:Nat)), (.int 2 (0:Nat)), (.int 0 (0:Nat)), (.int 0 (0:Nat)), (.int 3 (0:Nat)), (.ref (746:Nat)), (.bool .true), (.int 181 (0:Nat)), (.ref (747:Nat)), .none, (.ref (748:Nat)), (.ref (749:Nat)), (.ref (750:Nat)), (.int 1168 (0:Nat)), (.int 424 (0:Nat)), (.str (.ofString "/claim/cut.py") (1169:Nat))]) #[])) ::
  (nat_lit 752, (fnO (s := mt 47 2) rfl (.type "function") .none #[] (.ofString "Stack.push") (3:Nat) [] .none .none .none (.str (.ofString "postcore.stacks") (1133:Nat)) .none (.ref (751:Nat)) .none (0:Nat))) ::
  (nat_lit 753, (.mk (.type "tuple") .none (.seq #[] (0:Nat)) #[])) ::
  (nat_lit 755, (.mk (.type "tuple") .none (.seq #[(.str (.ofString "self") (1174:Nat)), (.str (.ofString "things") (1175:Nat))] (0:Nat)) #[])) ::
  (nat_lit 756, (.mk (.type "tuple") .none (.seq #[] (0:Nat)) #[])) ::
  (nat_lit 758, (.mk (.type "code") .none (.fields #[(.str (.ofString "push_all") (1171:Nat)), (.str (.ofString "Stack.push_all") (1172:Nat)), (.str (.ofString "/claim/cut.py") (1173:Nat)), (.int 429 (0:Nat)), (.int 2 (0:Nat)), (.int 0 (0:Nat)), (.int 0 (0:Nat)), (.int 3 (0:Nat)), (.ref (753:Nat)), (.bool .true), (.int 181 (0:Nat)), (.ref (754:Nat)), .none, (.ref (755:Nat)), (.ref (756:Nat)), (.ref (757:Nat)), (.int 1176 (0:Nat)), (.int 429 (0:Nat)), (.str (.ofString "/claim/cut.py") (1177:Nat))]) #[])) ::
  (nat_lit 759, (fnO (s := mt 47 3) rfl (.type "function") .none #[] (.ofString "Stack.push_all") (3:Nat) [] .none .none .none (.str (.ofString "postcore.stacks") (1133:Nat)) .none (.ref (758:Nat)) .none (0:Nat))) ::
  (nat_lit 760, (.mk (.type "tuple") .none (.seq #[] (0:Nat)) #[])) ::
  (nat_lit 762, (.mk (.type "tuple") .none (.seq #[(.str (.ofString "self") (1182:Nat))] (0:Nat)) #[])) ::
  (nat_lit 763, (.mk (.type "tuple") .none (.seq #[] (0:Nat)) #[])) ::
  (nat_lit 765, (.mk (.type "code") .none (.fields #[(.str (.ofString "pop") (1179:Nat)), (.str (.ofString "Stack.pop") (1180:Nat)), (.str (.ofString "/claim/cut.py") (1181:Nat)), (.int 432 (0:Nat)), (.int 1 (0:Nat)), (.int 0 (0:Nat)), (.int 0 (0:Nat)), (.int 3 (0:Nat)), (.ref (760:Nat)), (.bool .true), (.int 181 (0:Nat)), (.ref (761:Nat)), .none, (.ref (762:Nat)), (.ref (763:Nat)), (.ref (764:Nat)), (.int 1183 (0:Nat)), (.int 432 (0:Nat)), (.str (.ofString "/claim/cut.py") (1184:Nat))]) #[])) ::
  (nat_lit 766, (fnO (s := mt 47 4) rfl (.type "function") .none #[] (.ofString "Stack.pop") (3:Nat) [] .none .none .none (.str (.ofString "postcore.stacks") (1133:Nat)) .none (.ref (765:Nat)) .none (0:Nat))) ::
  (nat_lit 767, (.mk (.type "tuple") .none (.seq #[] (0:Nat)) #[])) ::
  (nat_lit 769, (.mk (.type "tuple") .none (.seq #[(.str (.ofString "self") (1189:Nat)), (.str (.ofString "depth") (1190:Nat))] (0:Nat)) #[])) ::
  (nat_lit 770, (.mk (.type "tuple") .none (.seq #[] (0:Nat)) #[])) ::
  (nat_lit 772, (.mk (.type "code") .none (.fields #[(.str (.ofString "at") (1186:Nat)), (.str (.ofString "Stack.at") (1187:Nat)), (.str (.ofString "/claim/cut.py") (1188:Nat)), (.int 437 (0:Nat)), (.int 2 (0:Nat)), (.int 0 (0:Nat)), (.int 0 (0:Nat)), (.int 3 (0:Nat)), (.ref (767:Nat)), (.bool .true), (.int 181 (0:Nat)), (.ref (768:Nat)), .none, (.ref (769:Nat)), (.ref (770:Nat)), (.ref (771:Nat)), (.int 1191 (0:Nat)), (.int 437 (0:Nat)), (.str (.ofString "/claim/cut.py") (1192:Nat))]) #[])) ::
  (nat_lit 773, (fnO (s := mt 47 5) rfl (.type "function") .none #[] (.ofString "Stack.at") (3:Nat) [] .none .none .none (.str (.ofString "postcore.stacks") (1133:Nat)) .none (.ref (772:Nat)) .none (0:Nat))) ::
  (nat_lit 774, (.mk (.type "tuple") .none (.seq #[] (0:Nat)) #[])) ::
  (nat_lit 776, (.mk (.type "tuple") .none (.seq #[(.str (.ofString "self") (1197:Nat)), (.str (.ofString "many") (1198:Nat))] (0:Nat)) #[])) ::
  (nat_lit 777, (.mk (.type "tuple") .none (.seq #[] (0:Nat)) #[])) ::
  (nat_lit 779, (.mk (.type "code") .none (.fields #[(.str (.ofString "top") (1194:Nat)), (.str (.ofString "Stack.top") (1195:Nat)), (.str (.ofString "/claim/cut.py") (1196:Nat)), (.int 444 (0:Nat)), (.int 2 (0:Nat)), (.int 0 (0:Nat)), (.int 0 (0:Nat)), (.int 3 (0:Nat)), (.ref (774:Nat)), (.bool .true), (.int 181 (0:Nat)), (.ref (775:Nat)), .none, (.ref (776:Nat)), (.ref (777:Nat)), (.ref (778:Nat)), (.int 1199 (0:Nat)), (.int 444 (0:Nat)), (.str (.ofString "/claim/cut.py") (1200:Nat))]) #[])) ::
  (nat_lit 780, (fnO (s := mt 47 6) rfl (.type "function") .none #[] (.ofString "Stack.top") (3:Nat) [] .none .none .none (.str (.ofString "postcore.stacks") (1133:Nat)) .none (.ref (779:Nat)) .none (0:Nat))) ::
  (nat_lit 781, (.mk (.type "tuple") .none (.seq #[] (0:Nat)) #[])) ::
  (nat_lit 783, (.mk (.type "tuple") .none (.seq #[(.str (.ofString "self") (1205:Nat)), (.str (.ofString "many") (1206:Nat))] (0:Nat)) #[])) ::
  (nat_lit 784, (.mk (.type "tuple") .none (.seq #[] (0:Nat)) #[])) ::
  (nat_lit 786, (.mk (.type "code") .none (.fields #[(.str (.ofString "take") (1202:Nat)), (.str (.ofString "Stack.take") (1203:Nat)), (.str (.ofString "/claim/cut.py") (1204:Nat)), (.int 451 (0:Nat)), (.int 2 (0:Nat)), (.int 0 (0:Nat)), (.int 0 (0:Nat)), (.int 3 (0:Nat)), (.ref (781:Nat)), (.bool .true), (.int 181 (0:Nat)), (.ref (782:Nat)), .none, (.ref (783:Nat)), (.ref (784:Nat)), (.ref (785:Nat)), (.int 1207 (0:Nat)), (.int 451 (0:Nat)), (.str (.ofString "/claim/cut.py") (1208:Nat))]) #[])) ::
  (nat_lit 787, (fnO (s := mt 47 7) rfl (.type "function") .none #[] (.ofString "Stack.take") (3:Nat) [] .none .none .none (.str (.ofString "postcore.stacks") (1133:Nat)) .none (.ref (786:Nat)) .none (0:Nat))) ::
  (nat_lit 788, (.mk (.type "tuple") .none (.seq #[] (0:Nat)) #[])) ::
  (nat_lit 790, (.mk (.type "tuple") .none (.seq #[(.str (.ofString "self") (1213:Nat)), (.str (.ofString "many") (1214:Nat))] (0:Nat)) #[])) ::
  (nat_lit 791, (.mk (.type "tuple") .none (.seq #[] (0:Nat)) #[])) ::
  (nat_lit 793, (.mk (.type "code") .none (.fields #[(.str (.ofString "cut") (1210:Nat)), (.str (.ofString "Stack.cut") (1211:Nat)), (.str (.ofString "/claim/cut.py") (1212:Nat)), (.int 454 (0:Nat)), (.int 2 (0:Nat)), (.int 0 (0:Nat)), (.int 0 (0:Nat)), (.int 3 (0:Nat)), (.ref (788:Nat)), (.bool .true), (.int 181 (0:Nat)), (.ref (789:Nat)), .none, (.ref (790:Nat)), (.ref (791:Nat)), (.ref (792:Nat)), (.int 1215 (0:Nat)), (.int 454 (0:Nat)), (.str (.ofString "/claim/cut.py") (1216:Nat))]) #[])) ::
  (nat_lit 794, (fnO (s := mt 47 8) rfl (.type "function") .none #[] (.ofString "Stack.cut") (3:Nat) [] .none .none .none (.str (.ofString "postcore.stacks") (1133:Nat)) .none (.ref (793:Nat)) .none (0:Nat))) ::
  (nat_lit 795, (.mk (.type "tuple") .none (.seq #[] (0:Nat)) #[])) ::
  (nat_lit 797, (.mk (.type "tuple") .none (.seq #[(.str (.ofString "self") (1221:Nat)), (.str (.ofString "many") (1222:Nat)), (.str (.ofString "by") (1223:Nat))] (0:Nat)) #[])) ::
  (nat_lit 798, (.mk (.type "tuple") .none (.seq #[] (0:Nat)) #[])) ::
  (nat_lit 800, (.mk (.type "code") .none (.fields #[(.str (.ofString "rolled") (1218:Nat)), (.str (.ofString "Stack.rolled") (1219:Nat)), (.str (.ofString "/claim/cut.py") (1220:Nat)), (.int 457 (0:Nat)), (.int 3 (0:Nat)), (.int 0 (0:Nat)), (.int 0 (0:Nat)), (.int 3 (0:Nat)), (.ref (795:Nat)), (.bool .true), (.int 181 (0:Nat)), (.ref (796:Nat)), .none, (.ref (797:Nat)), (.ref (798:Nat)), (.ref (799:Nat)), (.int 1224 (0:Nat)), (.int 457 (0:Nat)), (.str (.ofString "/claim/cut.py") (1225:Nat))]) #[])) ::
  (nat_lit 801, (fnO (s := mt 47 9) rfl (.type "function") .none #[] (.ofString "Stack.rolled") (3:Nat) [] .none .none .none (.str (.ofString "postcore.stacks") (1133:Nat)) .none (.ref (800:Nat)) .none (0:Nat))) ::
  (nat_lit 802, (.mk (.type "tuple") .none (.seq #[] (0:Nat)) #[])) ::
  (nat_lit 804, (.mk (.type "tuple") .none (.seq #[(.str (.ofString "self") (1230:Nat))] (0:Nat)) #[])) ::
  (nat_lit 805, (.mk (.type "tuple") .none (.seq #[] (0:Nat)) #[])) ::
  (nat_lit 807, (.mk (.type "code") .none (.fields #[(.str (.ofString "to_mark") (1227:Nat)), (.str (.ofString "Stack.to_mark") (1228:Nat)), (.str (.ofString "/claim/cut.py") (1229:Nat)), (.int 460 (0:Nat)), (.int 1 (0:Nat)), (.int 0 (0:Nat)), (.int 0 (0:Nat)), (.int 3 (0:Nat)), (.ref (802:Nat)), (.bool .true), (.int 181 (0:Nat)), (.ref (803:Nat)), .none, (.ref (804:Nat)), (.ref (805:Nat)), (.ref (806:Nat)), (.int 1231 (0:Nat)), (.int 460 (0:Nat)), (.str (.ofString "/claim/cut.py") (1232:Nat))]) #[])) ::
  (nat_lit 808, (fnO (s := mt 47 10) rfl (.type "function") .none #[] (.ofString "Stack.to_mark") (3:Nat) [] .none .none .none (.str (.ofString "postcore.stacks") (1133:Nat)) .none (.ref (807:Nat)) .none (0:Nat))) ::
  (nat_lit 809, (.mk (.type "tuple") .none (.seq #[] (0:Nat)) #[])) ::
  (nat_lit 811, (.mk (.type "tuple") .none (.seq #[(.str (.ofString "self") (1237:Nat))] (0:Nat)) #[])) ::
  (nat_lit 812, (.mk (.type "tuple") .none (.seq #[] (0:Nat)) #[])) ::
  (nat_lit 814, (.mk (.type "code") .none (.fields #[(.str (.ofString "snapshot") (1234:Nat)), (.str (.ofString "Stack.snapshot") (1235:Nat)), (.str (.ofString "/claim/cut.py") (1236:Nat)), (.int 463 (0:Nat)), (.int 1 (0:Nat)), (.int 0 (0:Nat)), (.int 0 (0:Nat)), (.int 3 (0:Nat)), (.ref (809:Nat)), (.bool .true), (.int 181 (0:Nat)), (.ref (810:Nat)), .none, (.ref (811:Nat)), (.ref (812:Nat)), (.ref (813:Nat)), (.int 1238 (0:Nat)), (.int 463 (0:Nat)), (.str (.ofString "/claim/cut.py") (1239:Nat))]) #[])) ::
  (nat_lit 815, (fnO (s := mt 47 11) rfl (.type "function") .none #[] (.ofString "Stack.snapshot") (3:Nat) [] .none .none .none (.str (.ofString "postcore.stacks") (1133:Nat)) .none (.ref (814:Nat)) .none (0:Nat))) ::
  (nat_lit 816, (.mk (.type "tuple") .none (.seq #[] (0:Nat)) #[])) ::
  (nat_lit 818, (.mk (.type "tuple") .none (.seq #[(.str (.ofString "self") (1244:Nat)), (.str (.ofString "snapshot") (1245:Nat))] (0:Nat)) #[])) ::
  (nat_lit 819, (.mk (.type "tuple") .none (.seq #[] (0:Nat)) #[])) ::
  (nat_lit 821, (.mk (.type "code") .none (.fields #[(.str (.ofString "put_back") (1241:Nat)), (.str (.ofString "Stack.put_back") (1242:Nat)), (.str (.ofString "/claim/cut.py") (1243:Nat)), (.int 466 (0:Nat)), (.int 2 (0:Nat)), (.int 0 (0:Nat)), (.int 0 (0:Nat)), (.int 3 (0:Nat)), (.ref (816:Nat)), (.bool .true), (.int 181 (0:Nat)), (.ref (817:Nat)), .none, (.ref (818:Nat)), (.ref (819:Nat)), (.ref (820:Nat)), (.int 1246 (0:Nat)), (.int 466 (0:Nat)), (.str (.ofString "/claim/cut.py") (1247:Nat))]) #[])) ::
  (nat_lit 822, (fnO (s := mt 47 12) rfl (.type "function") .none #[] (.ofString "Stack.put_back") (3:Nat) [] .none .none .none (.str (.ofString "postcore.stacks") (1133:Nat)) .none (.ref (821:Nat)) .none (0:Nat))) ::
  (nat_lit 823, (.mk (.type "tuple") .none (.seq #[(.str (.ofString "most") (1249:Nat)), (.str (.ofString "things") (1250:Nat))] (0:Nat)) #[])) ::
  (nat_lit 824, (.mk (.type "dict") .none (.dict #[(.mk (PyData.keyHash P (.ofString "__module__")) (.str (.ofString "__module__") (1142:Nat)) (.str (.ofString "postcore.stacks") (1133:Nat))), (.mk (PyData.keyHash P (.ofString "__firstlineno__")) (.str (.ofString "__firstlineno__") (1146:Nat)) (.int 414 (1145:Nat))), (.mk (PyData.keyHash P (.ofString "__init__")) (.str (.ofString "__init__") (1154:Nat)) (.ref (737:Nat))), (.mk (PyData.keyHash P (.ofString "many")) (.str (.ofString "many") (1162:Nat)) (.ref (745:Nat))), (.mk (PyData.keyHash P (.ofString "push")) (.str (.ofString "push") (1170:Nat)) (.ref (752:Nat))), (.mk (PyData.keyHash P (.ofString "push_all")) (.str (.ofString "push_all") (1178:Nat)) (.ref (759:Nat))), (.mk (PyData.keyHash P (.ofString "pop")) (.str (.ofString "pop") (1185:Nat)) (.ref (766:Nat))), (.mk (PyData.keyHash P (.ofString "at")) (.str (.ofString "at") (1193:Nat)) (.ref (773:Nat))), (.mk (PyData.keyHash P (.ofString "top")) (.str (.ofString "top") (1201:Nat)) (.ref (780:Nat))), (.mk (PyData.keyHash P (.ofString "take")) (.str (.ofString "take") (1209:Nat)) (.ref (787:Nat))), (.mk (PyData.keyHash P (.ofString "cut")) (.str (.ofString "cut") (1217:Nat)) (.ref (794:Nat))), (.mk (PyData.keyHash P (.ofString "rolled")) (.str (.ofString "rolled") (1226:Nat)) (.ref (801:Nat))), (.mk (PyData.keyHash P (.ofString "to_mark")) (.str (.ofString "to_mark") (1233:Nat)) (.ref (808:Nat))), (.mk (PyData.keyHash P (.ofString "snapshot")) (.str (.ofString "snapshot") (1240:Nat)) (.ref (815:Nat))), (.mk (PyData.keyHash P (.ofString "put_back")) (.str (.ofString "put_back") (1248:Nat)) (.ref (822:Nat))), (.mk (PyData.keyHash P (.ofString "__static_attributes__")) (.str (.ofString "__static_attributes__") (1251:Nat)) (.ref (823:Nat))), (.mk (PyData.keyHash P (.ofString "__dict__")) (.str (.ofString "__dict__") (1253:Nat)) (.ref (826:Nat))), (.mk (PyData.keyHash P (.ofString "__weakref__")) (.str (.ofString "__weakref__") (1255:Nat)) (.ref (827:Nat))), (.mk (PyData.keyHash P (.ofString "__doc__")) (.str (.ofString "__doc__") (1256:Nat)) .none)] (4:Nat)) #[])) ::
  (nat_lit 825, (.mk (.type "type") .none (.cls (.mk (.ofString "Stack") [(.type "object")] [(.ref (825:Nat)), (.type "object")] (824:Nat) (.ofString "Stack") .true [] [] .false .none .false)) #[.none, .none, (.some (.str (.ofString "Stack") (1135:Nat))), (.some (.str (.ofString "Stack") (1143:Nat))), (.some (.builtin "object.__new__")), (.some (.bool .true))])) ::
  (nat_lit 826, (.mk (.type "getset_descriptor") .none (.fields #[(.str (.ofString "__dict__") (1252:Nat)), (.ref (825:Nat)), (.builtin "function.__dict__"), (.builtin "function.__dict__#set")]) #[])) ::
  (nat_lit 827, (.mk (.type "getset_descriptor") .none (.fields #[(.str (.ofString "__weakref__") (1254:Nat)), (.ref (825:Nat)), (.builtin "ExceptionGroup.__weakref__"), .none]) #[])) ::
  (nat_lit 830, (.mk (.type "tuple") .none (.seq #[] (0:Nat)) #[])) ::
  (nat_lit 832, (.mk (.type "tuple") .none (.seq #[(.str (.ofString "machine") (1262:Nat)), (.str (.ofString "many") (1263:Nat))] (0:Nat)) #[])) ::
  (nat_lit 833, (.mk (.type "tuple") .none (.seq #[] (0:Nat)) #[])) ::
  (nat_lit 835, (.mk (.type "code") .none (.fields #[(.str (.ofString "need") (1259:Nat)), (.str (.ofString "need") (1260:Nat)), (.str (.ofString "/claim/cut.py") (1261:Nat)), (.int 468 (0:Nat)), (.int 2 (0:Nat)), (.int 0 (0:Nat)), (.int 0 (0:Nat)), (.int 3 (0:Nat)), (.ref (830:Nat)), (.bool .true), (.int 181 (0:Nat)), (.ref (831:Nat)), .none, (.ref (832:Nat)), (.ref (833:Nat)), (.ref (834:Nat)), (.int 1264 (0:Nat)), (.int 468 (0:Nat)), (.str (.ofString "/claim/cut.py") (1265:Nat))]) #[])) ::
  (nat_lit 836, (fnO (s := st 48) rfl (.type "function") .none #[] (.ofString "need") (3:Nat) [] .none .none .none (.str (.ofString "postcore.stacks") (1133:Nat)) .none (.ref (835:Nat)) .none (0:Nat))) ::
  (nat_lit 837, (.mk (.type "tuple") .none (.seq #[] (0:Nat)) #[])) ::
  (nat_lit 839, (.mk (.type "tuple") .none (.seq #[(.str (.ofString "machine") (1270:Nat)), (.str (.ofString "kinds") (1271:Nat))] (0:Nat)) #[])) ::
  (nat_lit 840, (.mk (.type "tuple") .none (.seq #[] (0:Nat)) #[])) ::
  (nat_lit 842, (.mk (.type "code") .none (.fields #[(.str (.ofString "stack_pop_kind") (1267:Nat)), (.str (.ofString "stack_pop_kind") (1268:Nat)), (.str (.ofString "/claim/cut.py") (1269:Nat)), (.int 471 (0:Nat)), (.int 2 (0:Nat)), (.int 0 (0:Nat)), (.int 0 (0:Nat)), (.int 3 (0:Nat)), (.ref (837:Nat)), (.bool .true), (.int 181 (0:Nat)), (.ref (838:Nat)), .none, (.ref (839:Nat)), (.ref (840:Nat)), (.ref (841:Nat)), (.int 1272 (0:Nat)), (.int 471 (0:Nat)), (.str (.ofString "/claim/cut.py") (1273:Nat))]) #[])) ::
  (nat_lit 843, (fnO (s := st 49) rfl (.type "function") .none #[] (.ofString "stack_pop_kind") (3:Nat) [] .none .none .none (.str (.ofString "postcore.stacks") (1133:Nat)) .none (.ref (842:Nat)) .none (0:Nat))) ::
  (nat_lit 844, (.mk (.type "tuple") .none (.seq #[] (0:Nat)) #[])) ::
  (nat_lit 846, (.mk (.type "tuple") .none (.seq #[(.str (.ofString "machine") (1278:Nat))] (0:Nat)) #[])) ::
  (nat_lit 847, (.mk (.type "tuple") .none (.seq #[] (0:Nat)) #[])) ::
  (nat_lit 849, (.mk (.type "code") .none (.fields #[(.str (.ofString "pop_integer") (1275:Nat)), (.str (.ofString "pop_integer") (1276:Nat)), (.str (.ofString "/claim/cut.py") (1277:Nat)), (.int 475 (0:Nat)), (.int 1 (0:Nat)), (.int 0 (0:Nat)), (.int 0 (0:Nat)), (.int 3 (0:Nat)), (.ref (844:Nat)), (.bool .true), (.int 181 (0:Nat)), (.ref (845:Nat)), .none, (.ref (846:Nat)), (.ref (847:Nat)), (.ref (848:Nat)), (.int 1279 (0:Nat)), (.int 475 (0:Nat)), (.str (.ofString "/claim/cut.py") (1280:Nat))]) #[])) ::
  (nat_lit 850, (fnO (s := st 50) rfl (.type "function") .none #[] (.ofString "pop_integer") (3:Nat) [] .none .none .none (.str (.ofString "postcore.stacks") (1133:Nat)) .none (.ref (849:Nat)) .none (0:Nat))) ::
  (nat_lit 851, (.mk (.type "tuple") .none (.seq #[] (0:Nat)) #[])) ::
  (nat_lit 853, (.mk (.type "tuple") .none (.seq #[(.str (.ofString "machine") (1287:Nat)), (.str (.ofString "source") (1288:Nat))] (0:Nat)) #[])) ::
  (nat_lit 854, (.mk (.type "tuple") .none (.seq #[] (0:Nat)) #[])) ::
  (nat_lit 856, (.mk (.type "code") .none (.fields #[(.str (.ofString "op_rand") (1284:Nat)), (.str (.ofString "op_rand") (1285:Nat)), (.str (.ofString "/claim/cut.py") (1286:Nat)), (.int 478 (0:Nat)), (.int 1 (0:Nat)), (.int 0 (0:Nat)), (.int 0 (0:Nat)), (.int 3 (0:Nat)), (.ref (851:Nat)), (.bool .true), (.int 181 (0:Nat)), (.ref (852:Nat)), .none, (.ref (853:Nat)), (.ref (854:Nat)), (.ref (855:Nat)), (.int 1289 (0:Nat)), (.int 478 (0:Nat)), (.str (.ofString "/claim/cut.py") (1290:Nat))]) #[])) ::
  (nat_lit 857, (fnO (s := st 52) rfl (.type "function") .none #[] (.ofString "op_rand") (3:Nat) [] .none .none .none (.str (.ofString "postcore.mathops") (1282:Nat)) .none (.ref (856:Nat)) .none (0:Nat))) ::
  (nat_lit 858, (.mk (.type "tuple") .none (.seq #[] (0:Nat)) #[])) ::
  (nat_lit 860, (.mk (.type "tuple") .none (.seq #[(.str (.ofString "machine") (1295:Nat))] (0:Nat)) #[])) ::
  (nat_lit 861, (.mk (.type "tuple") .none (.seq #[] (0:Nat)) #[])) ::
  (nat_lit 863, (.mk (.type "code") .none (.fields #[(.str (.ofString "op_srand") (1292:Nat)), (.str (.ofString "op_srand") (1293:Nat)), (.str (.ofString "/claim/cut.py") (1294:Nat)), (.int 482 (0:Nat)), (.int 1 (0:Nat)), (.int 0 (0:Nat)), (.int 0 (0:Nat)), (.int 3 (0:Nat)), (.ref (858:Nat)), (.bool .true), (.int 181 (0:Nat)), (.ref (859:Nat)), .none, (.ref (860:Nat)), (.ref (861:Nat)), (.ref (862:Nat)), (.int 1296 (0:Nat)), (.int 482 (0:Nat)), (.str (.ofString "/claim/cut.py") (1297:Nat))]) #[])) ::
  (nat_lit 864, (fnO (s := st 53) rfl (.type "function") .none #[] (.ofString "op_srand") (3:Nat) [] .none .none .none (.str (.ofString "postcore.mathops") (1282:Nat)) .none (.ref (863:Nat)) .none (0:Nat))) ::
  (nat_lit 865, (.mk (.type "tuple") .none (.seq #[] (0:Nat)) #[])) ::
  (nat_lit 867, (.mk (.type "tuple") .none (.seq #[(.str (.ofString "machine") (1302:Nat))] (0:Nat)) #[])) ::
  (nat_lit 868, (.mk (.type "tuple") .none (.seq #[] (0:Nat)) #[])) ::
  (nat_lit 870, (.mk (.type "code") .none (.fields #[(.str (.ofString "op_rrand") (1299:Nat)), (.str (.ofString "op_rrand") (1300:Nat)), (.str (.ofString "/claim/cut.py") (1301:Nat)), (.int 485 (0:Nat)), (.int 1 (0:Nat)), (.int 0 (0:Nat)), (.int 0 (0:Nat)), (.int 3 (0:Nat)), (.ref (865:Nat)), (.bool .true), (.int 181 (0:Nat)), (.ref (866:Nat)), .none, (.ref (867:Nat)), (.ref (868:Nat)), (.ref (869:Nat)), (.int 1303 (0:Nat)), (.int 485 (0:Nat)), (.str (.ofString "/claim/cut.py") (1304:Nat))]) #[])) ::
  (nat_lit 871, (fnO (s := st 54) rfl (.type "function") .none #[] (.ofString "op_rrand") (3:Nat) [] .none .none .none (.str (.ofString "postcore.mathops") (1282:Nat)) .none (.ref (870:Nat)) .none (0:Nat))) ::
  (nat_lit 872, (.mk (.type "tuple") .none (.seq #[] (0:Nat)) #[])) ::
  (nat_lit 875, (.mk (.type "code") .none (.fields #[(.str (.ofString "_law_deck") (1310:Nat)), (.str (.ofString "_law_deck") (1311:Nat)), (.str (.ofString "/claim/cut.py") (1312:Nat)), (.int 489 (0:Nat)), (.int 1 (0:Nat)), (.int 0 (0:Nat)), (.int 0 (0:Nat)), (.int 3 (0:Nat)), (.ref (872:Nat)), (.bool .true), (.int 181 (0:Nat)), (.ref (873:Nat)), .none, .none, .none, (.ref (874:Nat)), (.int 1313 (0:Nat)), (.int 489 (0:Nat)), (.str (.ofString "/claim/cut.py") (1314:Nat))]) #[])) ::
  (nat_lit 876, (fnO (s := st 57) rfl (.type "function") .none #[] (.ofString "_law_deck") (3:Nat) [] .none .none .none (.str (.ofString "law_on0274_01") (1306:Nat)) .none (.ref (875:Nat)) .none (0:Nat))) ::
  (nat_lit 877, (.mk (.type "tuple") .none (.seq #[] (0:Nat)) #[])) ::
  (nat_lit 879, (.mk (.type "tuple") .none (.seq #[(.str (.ofString "deck") (1319:Nat)), (.str (.ofString "below") (1320:Nat)), (.str (.ofString "at") (1321:Nat)), (.str (.ofString "cells") (1322:Nat))] (0:Nat)) #[])) ::
  (nat_lit 880, (.mk (.type "tuple") .none (.seq #[] (0:Nat)) #[])) ::
  (nat_lit 882, (.mk (.type "code") .none (.fields #[(.str (.ofString "_law_draw") (1316:Nat)), (.str (.ofString "_law_draw") (1317:Nat)), (.str (.ofString "/claim/cut.py") (1318:Nat)), (.int 491 (0:Nat)), (.int 2 (0:Nat)), (.int 0 (0:Nat)), (.int 0 (0:Nat)), (.int 3 (0:Nat)), (.ref (877:Nat)), (.bool .true), (.int 181 (0:Nat)), (.ref (878:Nat)), .none, (.ref (879:Nat)), (.ref (880:Nat)), (.ref (881:Nat)), (.int 1323 (0:Nat)), (.int 491 (0:Nat)), (.str (.ofString "/claim/cut.py") (1324:Nat))]) #[])) ::
  (nat_lit 883, (fnO (s := st 58) rfl (.type "function") .none #[] (.ofString "_law_draw") (3:Nat) [] .none .none .none (.str (.ofString "law_on0274_01") (1306:Nat)) .none (.ref (882:Nat)) .none (0:Nat))) ::
  (nat_lit 884, (.mk (.type "tuple") .none (.seq #[] (0:Nat)) #[])) ::
  (nat_lit 886, (.mk (.type "tuple") .none (.seq #[(.str (.ofString "state") (1329:Nat)), (.str (.ofString "turn") (1330:Nat))] (0:Nat)) #[])) ::
  (nat_lit 887, (.mk (.type "tuple") .none (.seq #[] (0:Nat)) #[])) ::
  (nat_lit 889, (.mk (.type "code") .none (.fields #[(.str (.ofString "_law_next") (1326:Nat)), (.str (.ofString "_law_next") (1327:Nat)), (.str (.ofString "/claim/cut.py") (1328:Nat)), (.int 499 (0:Nat)), (.int 1 (0:Nat)), (.int 0 (0:Nat)), (.int 0 (0:Nat)), (.int 3 (0:Nat)), (.ref (884:Nat)), (.bool .true), (.int 181 (0:Nat)), (.ref (885:Nat)), .none, (.ref (886:Nat)), (.ref (887:Nat)), (.ref (888:Nat)), (.int 1331 (0:Nat)), (.int 499 (0:Nat)), (.str (.ofString "/claim/cut.py") (1332:Nat))]) #[])) ::
  (nat_lit 890, (fnO (s := st 59) rfl (.type "function") .none #[] (.ofString "_law_next") (3:Nat) [] .none .none .none (.str (.ofString "law_on0274_01") (1306:Nat)) .none (.ref (889:Nat)) .none (0:Nat))) ::
  (nat_lit 891, (.mk (.type "tuple") .none (.seq #[] (0:Nat)) #[])) ::
  (nat_lit 893, (.mk (.type "tuple") .none (.seq #[(.str (.ofString "number") (1337:Nat))] (0:Nat)) #[])) ::
  (nat_lit 894, (.mk (.type "tuple") .none (.seq #[] (0:Nat)) #[])) ::
  (nat_lit 896, (.mk (.type "code") .none (.fields #[(.str (.ofString "_law_seeded") (1334:Nat)), (.str (.ofString "_law_seeded") (1335:Nat)), (.str (.ofString "/claim/cut.py") (1336:Nat)), (.int 503 (0:Nat)), (.int 1 (0:Nat)), (.int 0 (0:Nat)), (.int 0 (0:Nat)), (.int 3 (0:Nat)), (.ref (891:Nat)), (.bool .true), (.int 181 (0:Nat)), (.ref (892:Nat)), .none, (.ref (893:Nat)), (.ref (894:Nat)), (.ref (895:Nat)), (.int 1338 (0:Nat)), (.int 503 (0:Nat)), (.str (.ofString "/claim/cut.py") (1339:Nat))]) #[])) ::
  (nat_lit 897, (fnO (s := st 60) rfl (.type "function") .none #[] (.ofString "_law_seeded") (3:Nat) [] .none .none .none (.str (.ofString "law_on0274_01") (1306:Nat)) .none (.ref (896:Nat)) .none (0:Nat))) ::
  (nat_lit 898, (.mk (.type "tuple") .none (.seq #[] (0:Nat)) #[])) ::
  (nat_lit 900, (.mk (.type "tuple") .none (.seq #[(.str (.ofString "state") (1344:Nat)), (.str (.ofString "many") (1345:Nat)), (.str (.ofString "found") (1346:Nat)), (.str (.ofString "step") (1347:Nat)), (.str (.ofString "left") (1348:Nat))] (0:Nat)) #[])) ::
  (nat_lit 901, (.mk (.type "tuple") .none (.seq #[] (0:Nat)) #[])) ::
  (nat_lit 903, (.mk (.type "code") .none (.fields #[(.str (.ofString "_law_far") (1341:Nat)), (.str (.ofString "_law_far") (1342:Nat)), (.str (.ofString "/claim/cut.py") (1343:Nat)), (.int 505 (0:Nat)), (.int 2 (0:Nat)), (.int 0 (0:Nat)), (.int 0 (0:Nat)), (.int 3 (0:Nat)), (.ref (898:Nat)), (.bool .true), (.int 181 (0:Nat)), (.ref (899:Nat)), .none, (.ref (900:Nat)), (.ref (901:Nat)), (.ref (902:Nat)), (.int 1349 (0:Nat)), (.int 505 (0:Nat)), (.str (.ofString "/claim/cut.py") (1350:Nat))]) #[])) ::
  (nat_lit 904, (fnO (s := st 61) rfl (.type "function") .none #[] (.ofString "_law_far") (3:Nat) [] .none .none .none (.str (.ofString "law_on0274_01") (1306:Nat)) .none (.ref (903:Nat)) .none (0:Nat))) ::
  (nat_lit 905, (.mk (.type "tuple") .none (.seq #[] (0:Nat)) #[])) ::
  (nat_lit 907, (.mk (.type "tuple") .none (.seq #[(.str (.ofString "script") (1355:Nat)), (.str (.ofString "deck") (1356:Nat)), (.str (.ofString "pool") (1357:Nat)), (.str (.ofString "start") (1358:Nat)), (.str (.ofString "row") (1359:Nat)), (.str (.ofString "state") (1360:Nat)), (.str (.ofString "many") (1361:Nat)), (.str (.ofString "turn") (1362:Nat)), (.str (.ofString "told") (1363:Nat)), (.str (.ofString "post") (1364:Nat)), (.str (.ofString "way") (1365:Nat)), (.str (.ofString "number") (1366:Nat))] (0:Nat)) #[])) ::
  (nat_lit 908, (.mk (.type "tuple") .none (.seq #[] (0:Nat)) #[])) ::
  (nat_lit 910, (.mk (.type "code") .none (.fields #[(.str (.ofString "law") (1352:Nat)), (.str (.ofString "law") (1353:Nat)), (.str (.ofString "/claim/cut.py") (1354:Nat)), (.int 512 (0:Nat)), (.int 1 (0:Nat)), (.int 0 (0:Nat)), (.int 0 (0:Nat)), (.int 3 (0:Nat)), (.ref (905:Nat)), (.bool .true), (.int 181 (0:Nat)), (.ref (906:Nat)), .none, (.ref (907:Nat)), (.ref (908:Nat)), (.ref (909:Nat)), (.int 1367 (0:Nat)), (.int 512 (0:Nat)), (.str (.ofString "/claim/cut.py") (1368:Nat))]) #[])) ::
  (nat_lit 911, (fnO (s := st 62) rfl (.type "function") .none #[] (.ofString "law") (3:Nat) [] .none .none .none (.str (.ofString "law_on0274_01") (1306:Nat)) .none (.ref (910:Nat)) .none (0:Nat))) :: []
noncomputable def kAs : List Addr := nat_lit 2 :: nat_lit 3 :: nat_lit 15 :: nat_lit 17 :: nat_lit 18 :: nat_lit 20 :: nat_lit 21 :: nat_lit 29 :: nat_lit 30 :: nat_lit 32 :: nat_lit 33 :: nat_lit 35 :: nat_lit 36 :: nat_lit 37 :: nat_lit 39 :: nat_lit 40 :: nat_lit 42 :: nat_lit 43 :: nat_lit 44 :: nat_lit 46 :: nat_lit 47 :: nat_lit 49 :: nat_lit 50 :: nat_lit 51 :: nat_lit 52 :: nat_lit 53 :: nat_lit 54 :: nat_lit 55 :: nat_lit 58 :: nat_lit 65 :: nat_lit 66 :: nat_lit 68 :: nat_lit 69 :: nat_lit 71 :: nat_lit 72 :: nat_lit 73 :: nat_lit 74 :: nat_lit 75 :: nat_lit 76 :: nat_lit 79 :: nat_lit 86 :: nat_lit 87 :: nat_lit 88 :: nat_lit 91 :: nat_lit 98 :: nat_lit 99 :: nat_lit 100 :: nat_lit 103 :: nat_lit 110 :: nat_lit 111 :: nat_lit 112 :: nat_lit 115 :: nat_lit 118 :: nat_lit 119 :: nat_lit 127 :: nat_lit 128 :: nat_lit 130 :: nat_lit 131 :: nat_lit 133 :: nat_lit 134 :: nat_lit 135 :: nat_lit 136 :: nat_lit 137 :: nat_lit 138 :: nat_lit 139 :: nat_lit 149 :: nat_lit 151 :: nat_lit 152 :: nat_lit 154 :: nat_lit 155 :: nat_lit 156 :: nat_lit 157 :: nat_lit 158 :: nat_lit 159 :: nat_lit 160 :: nat_lit 170 :: nat_lit 172 :: nat_lit 173 :: nat_lit 175 :: nat_lit 176 :: nat_lit 177 :: nat_lit 178 :: nat_lit 179 :: nat_lit 180 :: nat_lit 181 :: nat_lit 184 :: nat_lit 186 :: nat_lit 187 :: nat_lit 189 :: nat_lit 190 :: nat_lit 191 :: nat_lit 193 :: nat_lit 194 :: nat_lit 196 :: nat_lit 197 :: nat_lit 198 :: nat_lit 199 :: nat_lit 201 :: nat_lit 202 :: nat_lit 204 :: nat_lit 205 :: nat_lit 206 :: nat_lit 208 :: nat_lit 209 :: nat_lit 211 :: nat_lit 212 :: nat_lit 213 :: nat_lit 215 :: nat_lit 216 :: nat_lit 218 :: nat_lit 219 :: nat_lit 220 :: nat_lit 222 :: nat_lit 223 :: nat_lit 225 :: nat_lit 226 :: nat_lit 227 :: nat_lit 229 :: nat_lit 230 :: nat_lit 232 :: nat_lit 233 :: nat_lit 234 :: nat_lit 236 :: nat_lit 237 :: nat_lit 239 :: nat_lit 240 :: nat_lit 241 :: nat_lit 243 :: nat_lit 244 :: nat_lit 246 :: nat_lit 247 :: nat_lit 248 :: nat_lit 250 :: nat_lit 251 :: nat_lit 253 :: nat_lit 254 :: nat_lit 255 :: nat_lit 257 :: nat_lit 258 :: nat_lit 260 :: nat_lit 261 :: nat_lit 262 :: nat_lit 264 :: nat_lit 265 :: nat_lit 267 :: nat_lit 268 :: nat_lit 269 :: nat_lit 271 :: nat_lit 272 :: nat_lit 274 :: nat_lit 275 :: nat_lit 276 :: nat_lit 278 :: nat_lit 279 :: nat_lit 281 :: nat_lit 282 :: nat_lit 283 :: nat_lit 285 :: nat_lit 286 :: nat_lit 288 :: nat_lit 289 :: nat_lit 290 :: nat_lit 292 :: nat_lit 293 :: nat_lit 295 :: nat_lit 296 :: nat_lit 297 :: nat_lit 299 :: nat_lit 300 :: nat_lit 302 :: nat_lit 303 :: nat_lit 311 :: nat_lit 312 :: nat_lit 314 :: nat_lit 315 :: nat_lit 317 :: nat_lit 318 :: nat_lit 319 :: nat_lit 321 :: nat_lit 322 :: nat_lit 324 :: nat_lit 325 :: nat_lit 326 :: nat_lit 327 :: nat_lit 329 :: nat_lit 330 :: nat_lit 332 :: nat_lit 333 :: nat_lit 334 :: nat_lit 336 :: nat_lit 337 :: nat_lit 339 :: nat_lit 340 :: nat_lit 341 :: nat_lit 342 :: nat_lit 343 :: nat_lit 344 :: nat_lit 345 :: nat_lit 355 :: nat_lit 357 :: nat_lit 358 :: nat_lit 360 :: nat_lit 361 :: nat_lit 362 :: nat_lit 364 :: nat_lit 365 :: nat_lit 367 :: nat_lit 368 :: nat_lit 369 :: nat_lit 371 :: nat_lit 372 :: nat_lit 374 :: nat_lit 375 :: nat_lit 376 :: nat_lit 378 :: nat_lit 379 :: nat_lit 381 :: nat_lit 382 :: nat_lit 383 :: nat_lit 385 :: nat_lit 386 :: nat_lit 388 :: nat_lit 389 :: nat_lit 390 :: nat_lit 391 :: nat_lit 392 :: nat_lit 393 :: nat_lit 394 :: nat_lit 397 :: nat_lit 404 :: nat_lit 406 :: nat_lit 407 :: nat_lit 409 :: nat_lit 410 :: nat_lit 411 :: nat_lit 413 :: nat_lit 414 :: nat_lit 416 :: nat_lit 417 :: nat_lit 418 :: nat_lit 420 :: nat_lit 421 :: nat_lit 423 :: nat_lit 424 :: nat_lit 425 :: nat_lit 427 :: nat_lit 428 :: nat_lit 430 :: nat_lit 431 :: nat_lit 432 :: nat_lit 433 :: nat_lit 434 :: nat_lit 437 :: nat_lit 444 :: nat_lit 445 :: nat_lit 447 :: nat_lit 448 :: nat_lit 450 :: nat_lit 451 :: nat_lit 452 :: nat_lit 454 :: nat_lit 455 :: nat_lit 457 :: nat_lit 458 :: nat_lit 459 :: nat_lit 461 :: nat_lit 462 :: nat_lit 464 :: nat_lit 465 :: nat_lit 466 :: nat_lit 468 :: nat_lit 469 :: nat_lit 471 :: nat_lit 472 :: nat_lit 473 :: nat_lit 474 :: nat_lit 475 :: nat_lit 478 :: nat_lit 485 :: nat_lit 487 :: nat_lit 488 :: nat_lit 490 :: nat_lit 491 :: nat_lit 492 :: nat_lit 494 :: nat_lit 495 :: nat_lit 497 :: nat_lit 498 :: nat_lit 499 :: nat_lit 501 :: nat_lit 502 :: nat_lit 504 :: nat_lit 505 :: nat_lit 506 :: nat_lit 508 :: nat_lit 509 :: nat_lit 511 :: nat_lit 512 :: nat_lit 513 :: nat_lit 514 :: nat_lit 515 :: nat_lit 518 :: nat_lit 520 :: nat_lit 521 :: nat_lit 523 :: nat_lit 524 :: nat_lit 532 :: nat_lit 534 :: nat_lit 535 :: nat_lit 537 :: nat_lit 538 :: nat_lit 539 :: nat_lit 541 :: nat_lit 542 :: nat_lit 544 :: nat_lit 545 :: nat_lit 546 :: nat_lit 548 :: nat_lit 549 :: nat_lit 551 :: nat_lit 552 :: nat_lit 553 :: nat_lit 555 :: nat_lit 556 :: nat_lit 558 :: nat_lit 559 :: nat_lit 560 :: nat_lit 562 :: nat_lit 563 :: nat_lit 565 :: nat_lit 566 :: nat_lit 567 :: nat_lit 569 :: nat_lit 570 :: nat_lit 572 :: nat_lit 573 :: nat_lit 574 :: nat_lit 575 :: nat_lit 576 :: nat_lit 578 :: nat_lit 579 :: nat_lit 581 :: nat_lit 582 :: nat_lit 583 :: nat_lit 585 :: nat_lit 586 :: nat_lit 588 :: nat_lit 589 :: nat_lit 590 :: nat_lit 592 :: nat_lit 593 :: nat_lit 595 :: nat_lit 596 :: nat_lit 597 :: nat_lit 599 :: nat_lit 600 :: nat_lit 602 :: nat_lit 603 :: nat_lit 604 :: nat_lit 606 :: nat_lit 607 :: nat_lit 609 :: nat_lit 610 :: nat_lit 611 :: nat_lit 613 :: nat_lit 614 :: nat_lit 616 :: nat_lit 617 :: nat_lit 618 :: nat_lit 620 :: nat_lit 621 :: nat_lit 623 :: nat_lit 624 :: nat_lit 625 :: nat_lit 627 :: nat_lit 628 :: nat_lit 630 :: nat_lit 631 :: nat_lit 632 :: nat_lit 634 :: nat_lit 635 :: nat_lit 637 :: nat_lit 638 :: nat_lit 639 :: nat_lit 641 :: nat_lit 642 :: nat_lit 644 :: nat_lit 645 :: nat_lit 646 :: nat_lit 648 :: nat_lit 649 :: nat_lit 651 :: nat_lit 652 :: nat_lit 653 :: nat_lit 655 :: nat_lit 656 :: nat_lit 658 :: nat_lit 659 :: nat_lit 660 :: nat_lit 662 :: nat_lit 663 :: nat_lit 665 :: nat_lit 666 :: nat_lit 667 :: nat_lit 669 :: nat_lit 670 :: nat_lit 672 :: nat_lit 673 :: nat_lit 674 :: nat_lit 676 :: nat_lit 677 :: nat_lit 679 :: nat_lit 680 :: nat_lit 681 :: nat_lit 683 :: nat_lit 684 :: nat_lit 686 :: nat_lit 687 :: nat_lit 688 :: nat_lit 689 :: nat_lit 691 :: nat_lit 692 :: nat_lit 694 :: nat_lit 695 :: nat_lit 696 :: nat_lit 698 :: nat_lit 699 :: nat_lit 701 :: nat_lit 702 :: nat_lit 703 :: nat_lit 705 :: nat_lit 706 :: nat_lit 708 :: nat_lit 709 :: nat_lit 710 :: nat_lit 712 :: nat_lit 713 :: nat_lit 715 :: nat_lit 716 :: nat_lit 717 :: nat_lit 718 :: nat_lit 719 :: nat_lit 720 :: nat_lit 721 :: nat_lit 731 :: nat_lit 733 :: nat_lit 734 :: nat_lit 736 :: nat_lit 737 :: nat_lit 738 :: nat_lit 740 :: nat_lit 741 :: nat_lit 743 :: nat_lit 744 :: nat_lit 745 :: nat_lit 746 :: nat_lit 748 :: nat_lit 749 :: nat_lit 751 :: nat_lit 752 :: nat_lit 753 :: nat_lit 755 :: nat_lit 756 :: nat_lit 758 :: nat_lit 759 :: nat_lit 760 :: nat_lit 762 :: nat_lit 763 :: nat_lit 765 :: nat_lit 766 :: nat_lit 767 :: nat_lit 769 :: nat_lit 770 :: nat_lit 772 :: nat_lit 773 :: nat_lit 774 :: nat_lit 776 :: nat_lit 777 :: nat_lit 779 :: nat_lit 780 :: nat_lit 781 :: nat_lit 783 :: nat_lit 784 :: nat_lit 786 :: nat_lit 787 :: nat_lit 788 :: nat_lit 790 :: nat_lit 791 :: nat_lit 793 :: nat_lit 794 :: nat_lit 795 :: nat_lit 797 :: nat_lit 798 :: nat_lit 800 :: nat_lit 801 :: nat_lit 802 :: nat_lit 804 :: nat_lit 805 :: nat_lit 807 :: nat_lit 808 :: nat_lit 809 :: nat_lit 811 :: nat_lit 812 :: nat_lit 814 :: nat_lit 815 :: nat_lit 816 :: nat_lit 818 :: nat_lit 819 :: nat_lit 821 :: nat_lit 822 :: nat_lit 823 :: nat_lit 824 :: nat_lit 825 :: nat_lit 826 :: nat_lit 827 :: nat_lit 830 :: nat_lit 832 :: nat_lit 833 :: nat_lit 835 :: nat_lit 836 :: nat_lit 837 :: nat_lit 839 :: nat_lit 840 :: nat_lit 842 :: nat_lit 843 :: nat_lit 844 :: nat_lit 846 :: nat_lit 847 :: nat_lit 849 :: nat_lit 850 :: nat_lit 851 :: nat_lit 853 :: nat_lit 854 :: nat_lit 856 :: nat_lit 857 :: nat_lit 858 :: nat_lit 860 :: nat_lit 861 :: nat_lit 863 :: nat_lit 864 :: nat_lit 865 :: nat_lit 867 :: nat_lit 868 :: nat_lit 870 :: nat_lit 871 :: nat_lit 872 :: nat_lit 875 :: nat_lit 876 :: nat_lit 877 :: nat_lit 879 :: nat_lit 880 :: nat_lit 882 :: nat_lit 883 :: nat_lit 884 :: nat_lit 886 :: nat_lit 887 :: nat_lit 889 :: nat_lit 890 :: nat_lit 891 :: nat_lit 893 :: nat_lit 894 :: nat_lit 896 :: nat_lit 897 :: nat_lit 898 :: nat_lit 900 :: nat_lit 901 :: nat_lit 903 :: nat_lit 904 :: nat_lit 905 :: nat_lit 907 :: nat_lit 908 :: nat_lit 910 :: nat_lit 911 :: []
noncomputable def R (P : Params) : Frag :=
  (0, boot_o_0 P) ::
  (1, boot_o_1 P) ::
  (4, boot_o_4 P) ::
  (5, boot_o_5 P) ::
  (6, boot_o_6 P) ::
  (7, boot_o_7 P) ::
  (8, boot_o_8 P) ::
  (9, boot_o_9 P) ::
  (10, boot_o_10 P) ::
  (11, (.mk (.type "tuple") .none (.seq #[] (0:Nat)) #[])) ::
  (12, (.mk .none .none (.fields (List.toArray ((.int 1 (0:Nat)) :: (.int 0 (0:Nat)) :: (.ref (20:Nat)) :: (.int 7 (0:Nat)) :: (.int 0 (0:Nat)) :: (.ref (27:Nat)) :: (.int 23 (0:Nat)) :: (.int 0 (0:Nat)) :: (.ref (63:Nat)) :: (.int 27 (0:Nat)) :: (.int 0 (0:Nat)) :: (.ref (84:Nat)) :: (.int 29 (0:Nat)) :: (.int 0 (0:Nat)) :: (.ref (96:Nat)) :: (.int 31 (0:Nat)) :: (.int 0 (0:Nat)) :: (.ref (108:Nat)) :: (.int 33 (0:Nat)) :: (.int 0 (0:Nat)) :: (.ref (118:Nat)) :: (.int 43 (0:Nat)) :: (.int 0 (0:Nat)) :: (.ref (125:Nat)) :: (.int 50 (0:Nat)) :: (.int 0 (0:Nat)) :: (.ref (147:Nat)) :: (.int 57 (0:Nat)) :: (.int 0 (0:Nat)) :: (.ref (168:Nat)) :: (.int 63 (0:Nat)) :: (.int 0 (0:Nat)) :: (.ref (189:Nat)) :: (.int 65 (0:Nat)) :: (.int 0 (0:Nat)) :: (.ref (196:Nat)) :: (.int 67 (0:Nat)) :: (.int 0 (0:Nat)) :: (.ref (204:Nat)) :: (.int 69 (0:Nat)) :: (.int 0 (0:Nat)) :: (.ref (211:Nat)) :: (.int 71 (0:Nat)) :: (.int 0 (0:Nat)) :: (.ref (218:Nat)) :: (.int 77 (0:Nat)) :: (.int 0 (0:Nat)) :: (.ref (225:Nat)) :: (.int 79 (0:Nat)) :: (.int 0 (0:Nat)) :: (.ref (232:Nat)) :: (.int 81 (0:Nat)) :: (.int 0 (0:Nat)) :: (.ref (239:Nat)) :: (.int 83 (0:Nat)) :: (.int 0 (0:Nat)) :: (.ref (246:Nat)) :: (.int 85 (0:Nat)) :: (.int 0 (0:Nat)) :: (.ref (253:Nat)) :: (.int 88 (0:Nat)) :: (.int 0 (0:Nat)) :: (.ref (260:Nat)) :: (.int 91 (0:Nat)) :: (.int 0 (0:Nat)) :: (.ref (267:Nat)) :: (.int 93 (0:Nat)) :: (.int 0 (0:Nat)) :: (.ref (274:Nat)) :: (.int 95 (0:Nat)) :: (.int 0 (0:Nat)) :: (.ref (281:Nat)) :: (.int 100 (0:Nat)) :: (.int 0 (0:Nat)) :: (.ref (288:Nat)) :: (.int 102 (0:Nat)) :: (.int 0 (0:Nat)) :: (.ref (295:Nat)) :: (.int 110 (0:Nat)) :: (.int 0 (0:Nat)) :: (.ref (302:Nat)) :: (.int 125 (0:Nat)) :: (.int 0 (0:Nat)) :: (.ref (309:Nat)) :: (.int 145 (0:Nat)) :: (.int 0 (0:Nat)) :: (.ref (353:Nat)) :: (.int 161 (0:Nat)) :: (.int 0 (0:Nat)) :: (.ref (402:Nat)) :: (.int 182 (0:Nat)) :: (.int 0 (0:Nat)) :: (.ref (442:Nat)) :: (.int 203 (0:Nat)) :: (.int 0 (0:Nat)) :: (.ref (483:Nat)) :: (.int 218 (0:Nat)) :: (.int 0 (0:Nat)) :: (.ref (523:Nat)) :: (.int 223 (0:Nat)) :: (.int 0 (0:Nat)) :: (.ref (530:Nat)) :: (.int 414 (0:Nat)) :: (.int 0 (0:Nat)) :: (.ref (729:Nat)) :: (.int 468 (0:Nat)) :: (.int 0 (0:Nat)) :: (.ref (835:Nat)) :: (.int 471 (0:Nat)) :: (.int 0 (0:Nat)) :: (.ref (842:Nat)) :: (.int 475 (0:Nat)) :: (.int 0 (0:Nat)) :: (.ref (849:Nat)) :: (.int 478 (0:Nat)) :: (.int 0 (0:Nat)) :: (.ref (856:Nat)) :: (.int 482 (0:Nat)) :: (.int 0 (0:Nat)) :: (.ref (863:Nat)) :: (.int 485 (0:Nat)) :: (.int 0 (0:Nat)) :: (.ref (870:Nat)) :: (.int 489 (0:Nat)) :: (.int 0 (0:Nat)) :: (.ref (875:Nat)) :: (.int 491 (0:Nat)) :: (.int 0 (0:Nat)) :: (.ref (882:Nat)) :: (.int 499 (0:Nat)) :: (.int 0 (0:Nat)) :: (.ref (889:Nat)) :: (.int 503 (0:Nat)) :: (.int 0 (0:Nat)) :: (.ref (896:Nat)) :: (.int 505 (0:Nat)) :: (.int 0 (0:Nat)) :: (.ref (903:Nat)) :: (.int 512 (0:Nat)) :: (.int 0 (0:Nat)) :: (.ref (910:Nat)) :: []))) #[])) ::
  (13, (.mk (.type "code") .none (.fields #[(.str (.ofString "<module>") (182:Nat)), (.str (.ofString "<module>") (183:Nat)), (.str (.ofString "/claim/cut.py") (184:Nat)), (.int 1 (0:Nat)), (.int 0 (0:Nat)), (.int 0 (0:Nat)), (.int 0 (0:Nat)), (.int 0 (0:Nat)), (.ref (11:Nat)), (.bool .false), (.int 181 (0:Nat)), (.ref (12:Nat)), .none, .none, .none, .none, (.int 185 (0:Nat)), (.int 1 (0:Nat)), (.str (.ofString "/claim/cut.py") (186:Nat))]) #[])) ::
  (14, (.mk (.type "frame") .none .plain #[(.some (.ref (13:Nat))), (.some (.ref (3:Nat))), (.some (.ref (3:Nat))), .none, (.some (.str (.ofString "__main__") (164:Nat))), .none, (.some (.ref (0:Nat)))])) ::
  (16, (.mk .none .none (.fields #[]) #[])) ::
  (19, (fnO (s := st 0) rfl .none .none #[] (.ofString "_wall") (0:Nat) [] .none .none .none .none .none .none .none (0:Nat))) ::
  (22, (.mk (.type "tuple") .none (.seq #[] (0:Nat)) #[])) ::
  (23, (.mk (.type "builtin_function_or_method") .none (.fields #[(.builtin "type.__prepare__"), (.type "type")]) #[])) ::
  (24, (.mk (.type "dict") .none (.dict #[(.mk (PyData.keyHash P (.ofString "__module__")) (.str (.ofString "__module__") (211:Nat)) (.str (.ofString "postcore.numbers") (194:Nat))), (.mk (PyData.keyHash P (.ofString "__qualname__")) (.str (.ofString "__qualname__") (213:Nat)) (.str (.ofString "Randoms") (212:Nat))), (.mk (PyData.keyHash P (.ofString "__firstlineno__")) (.str (.ofString "__firstlineno__") (215:Nat)) (.int 7 (214:Nat))), (.mk (PyData.keyHash P (.ofString "__init__")) (.str (.ofString "__init__") (224:Nat)) (.ref (36:Nat))), (.mk (PyData.keyHash P (.ofString "seed")) (.str (.ofString "seed") (232:Nat)) (.ref (43:Nat))), (.mk (PyData.keyHash P (.ofString "next_number")) (.str (.ofString "next_number") (239:Nat)) (.ref (50:Nat))), (.mk (PyData.keyHash P (.ofString "__static_attributes__")) (.str (.ofString "__static_attributes__") (241:Nat)) (.ref (51:Nat)))] (7:Nat)) #[])) ::
  (25, (.mk (.type "tuple") .none (.seq #[] (0:Nat)) #[])) ::
  (26, (.mk .none .none (.fields #[(.int 9 (0:Nat)), (.int 4 (0:Nat)), (.ref (35:Nat)), (.int 13 (0:Nat)), (.int 4 (0:Nat)), (.ref (42:Nat)), (.int 18 (0:Nat)), (.int 4 (0:Nat)), (.ref (49:Nat))]) #[])) ::
  (27, (.mk (.type "code") .none (.fields #[(.str (.ofString "Randoms") (206:Nat)), (.str (.ofString "Randoms") (207:Nat)), (.str (.ofString "/claim/cut.py") (208:Nat)), (.int 7 (0:Nat)), (.int 0 (0:Nat)), (.int 0 (0:Nat)), (.int 0 (0:Nat)), (.int 0 (0:Nat)), (.ref (25:Nat)), (.bool .false), (.int 181 (0:Nat)), (.ref (26:Nat)), .none, .none, .none, .none, (.int 209 (0:Nat)), (.int 7 (0:Nat)), (.str (.ofString "/claim/cut.py") (210:Nat))]) #[])) ::
  (28, (.mk (.type "frame") .none .plain #[(.some (.ref (27:Nat))), (.some (.ref (3:Nat))), (.some (.ref (24:Nat))), .none, (.some (.str (.ofString "postcore.numbers") (194:Nat))), .none, (.some (.ref (0:Nat)))])) ::
  (31, (.mk .none .none (.fields #[]) #[])) ::
  (34, (fnO (s := mt 4 0) rfl .none .none #[] (.ofString "Randoms.__init__") (0:Nat) [] .none .none .none .none .none .none .none (0:Nat))) ::
  (38, (.mk .none .none (.fields #[]) #[])) ::
  (41, (fnO (s := mt 4 1) rfl .none .none #[] (.ofString "Randoms.seed") (0:Nat) [] .none .none .none .none .none .none .none (0:Nat))) ::
  (45, (.mk .none .none (.fields #[]) #[])) ::
  (48, (fnO (s := mt 4 2) rfl .none .none #[] (.ofString "Randoms.next_number") (0:Nat) [] .none .none .none .none .none .none .none (0:Nat))) ::
  (56, (.mk (.type "super") .none (.fields #[(.ref (53:Nat)), (.ref (53:Nat)), (.ref (53:Nat))]) #[])) ::
  (57, (.mk (.type "builtin_function_or_method") .none (.fields #[(.builtin "object.__init_subclass__"), (.ref (53:Nat))]) #[])) ::
  (59, (.mk (.type "builtin_function_or_method") .none (.fields #[(.builtin "type.__prepare__"), (.type "type")]) #[])) ::
  (60, (.mk (.type "dict") .none (.dict #[(.mk (PyData.keyHash P (.ofString "__module__")) (.str (.ofString "__module__") (260:Nat)) (.str (.ofString "postcore.base") (249:Nat))), (.mk (PyData.keyHash P (.ofString "__qualname__")) (.str (.ofString "__qualname__") (262:Nat)) (.str (.ofString "PostError") (261:Nat))), (.mk (PyData.keyHash P (.ofString "__firstlineno__")) (.str (.ofString "__firstlineno__") (264:Nat)) (.int 23 (263:Nat))), (.mk (PyData.keyHash P (.ofString "__init__")) (.str (.ofString "__init__") (272:Nat)) (.ref (72:Nat))), (.mk (PyData.keyHash P (.ofString "__static_attributes__")) (.str (.ofString "__static_attributes__") (274:Nat)) (.ref (73:Nat)))] (5:Nat)) #[])) ::
  (61, (.mk (.type "tuple") .none (.seq #[] (0:Nat)) #[])) ::
  (62, (.mk .none .none (.fields #[(.int 25 (0:Nat)), (.int 4 (0:Nat)), (.ref (71:Nat))]) #[])) ::
  (63, (.mk (.type "code") .none (.fields #[(.str (.ofString "PostError") (255:Nat)), (.str (.ofString "PostError") (256:Nat)), (.str (.ofString "/claim/cut.py") (257:Nat)), (.int 23 (0:Nat)), (.int 0 (0:Nat)), (.int 0 (0:Nat)), (.int 0 (0:Nat)), (.int 0 (0:Nat)), (.ref (61:Nat)), (.bool .false), (.int 181 (0:Nat)), (.ref (62:Nat)), .none, .none, .none, .none, (.int 258 (0:Nat)), (.int 23 (0:Nat)), (.str (.ofString "/claim/cut.py") (259:Nat))]) #[])) ::
  (64, (.mk (.type "frame") .none .plain #[(.some (.ref (63:Nat))), (.some (.ref (3:Nat))), (.some (.ref (60:Nat))), .none, (.some (.str (.ofString "postcore.base") (249:Nat))), .none, (.some (.ref (0:Nat)))])) ::
  (67, (.mk .none .none (.fields #[]) #[])) ::
  (70, (fnO (s := mt 7 0) rfl .none .none #[] (.ofString "PostError.__init__") (0:Nat) [] .none .none .none .none .none .none .none (0:Nat))) ::
  (77, (.mk (.type "super") .none (.fields #[(.ref (75:Nat)), (.ref (75:Nat)), (.ref (75:Nat))]) #[])) ::
  (78, (.mk (.type "builtin_function_or_method") .none (.fields #[(.builtin "object.__init_subclass__"), (.ref (75:Nat))]) #[])) ::
  (80, (.mk (.type "builtin_function_or_method") .none (.fields #[(.builtin "type.__prepare__"), (.type "type")]) #[])) ::
  (81, (.mk (.type "dict") .none (.dict #[(.mk (PyData.keyHash P (.ofString "__module__")) (.str (.ofString "__module__") (289:Nat)) (.str (.ofString "postcore.base") (249:Nat))), (.mk (PyData.keyHash P (.ofString "__qualname__")) (.str (.ofString "__qualname__") (291:Nat)) (.str (.ofString "PsError") (290:Nat))), (.mk (PyData.keyHash P (.ofString "__firstlineno__")) (.str (.ofString "__firstlineno__") (293:Nat)) (.int 27 (292:Nat))), (.mk (PyData.keyHash P (.ofString "__static_attributes__")) (.str (.ofString "__static_attributes__") (294:Nat)) (.ref (86:Nat)))] (4:Nat)) #[])) ::
  (82, (.mk (.type "tuple") .none (.seq #[] (0:Nat)) #[])) ::
  (83, (.mk .none .none (.fields #[]) #[])) ::
  (84, (.mk (.type "code") .none (.fields #[(.str (.ofString "PsError") (284:Nat)), (.str (.ofString "PsError") (285:Nat)), (.str (.ofString "/claim/cut.py") (286:Nat)), (.int 27 (0:Nat)), (.int 0 (0:Nat)), (.int 0 (0:Nat)), (.int 0 (0:Nat)), (.int 0 (0:Nat)), (.ref (82:Nat)), (.bool .false), (.int 181 (0:Nat)), (.ref (83:Nat)), .none, .none, .none, .none, (.int 287 (0:Nat)), (.int 27 (0:Nat)), (.str (.ofString "/claim/cut.py") (288:Nat))]) #[])) ::
  (85, (.mk (.type "frame") .none .plain #[(.some (.ref (84:Nat))), (.some (.ref (3:Nat))), (.some (.ref (81:Nat))), .none, (.some (.str (.ofString "postcore.base") (249:Nat))), .none, (.some (.ref (0:Nat)))])) ::
  (89, (.mk (.type "super") .none (.fields #[(.ref (88:Nat)), (.ref (88:Nat)), (.ref (88:Nat))]) #[])) ::
  (90, (.mk (.type "builtin_function_or_method") .none (.fields #[(.builtin "object.__init_subclass__"), (.ref (88:Nat))]) #[])) ::
  (92, (.mk (.type "builtin_function_or_method") .none (.fields #[(.builtin "type.__prepare__"), (.type "type")]) #[])) ::
  (93, (.mk (.type "dict") .none (.dict #[(.mk (PyData.keyHash P (.ofString "__module__")) (.str (.ofString "__module__") (305:Nat)) (.str (.ofString "postcore.base") (249:Nat))), (.mk (PyData.keyHash P (.ofString "__qualname__")) (.str (.ofString "__qualname__") (307:Nat)) (.str (.ofString "Quit") (306:Nat))), (.mk (PyData.keyHash P (.ofString "__firstlineno__")) (.str (.ofString "__firstlineno__") (309:Nat)) (.int 29 (308:Nat))), (.mk (PyData.keyHash P (.ofString "__static_attributes__")) (.str (.ofString "__static_attributes__") (310:Nat)) (.ref (98:Nat)))] (4:Nat)) #[])) ::
  (94, (.mk (.type "tuple") .none (.seq #[] (0:Nat)) #[])) ::
  (95, (.mk .none .none (.fields #[]) #[])) ::
  (96, (.mk (.type "code") .none (.fields #[(.str (.ofString "Quit") (300:Nat)), (.str (.ofString "Quit") (301:Nat)), (.str (.ofString "/claim/cut.py") (302:Nat)), (.int 29 (0:Nat)), (.int 0 (0:Nat)), (.int 0 (0:Nat)), (.int 0 (0:Nat)), (.int 0 (0:Nat)), (.ref (94:Nat)), (.bool .false), (.int 181 (0:Nat)), (.ref (95:Nat)), .none, .none, .none, .none, (.int 303 (0:Nat)), (.int 29 (0:Nat)), (.str (.ofString "/claim/cut.py") (304:Nat))]) #[])) ::
  (97, (.mk (.type "frame") .none .plain #[(.some (.ref (96:Nat))), (.some (.ref (3:Nat))), (.some (.ref (93:Nat))), .none, (.some (.str (.ofString "postcore.base") (249:Nat))), .none, (.some (.ref (0:Nat)))])) ::
  (101, (.mk (.type "super") .none (.fields #[(.ref (100:Nat)), (.ref (100:Nat)), (.ref (100:Nat))]) #[])) ::
  (102, (.mk (.type "builtin_function_or_method") .none (.fields #[(.builtin "object.__init_subclass__"), (.ref (100:Nat))]) #[])) ::
  (104, (.mk (.type "builtin_function_or_method") .none (.fields #[(.builtin "type.__prepare__"), (.type "type")]) #[])) ::
  (105, (.mk (.type "dict") .none (.dict #[(.mk (PyData.keyHash P (.ofString "__module__")) (.str (.ofString "__module__") (321:Nat)) (.str (.ofString "postcore.base") (249:Nat))), (.mk (PyData.keyHash P (.ofString "__qualname__")) (.str (.ofString "__qualname__") (323:Nat)) (.str (.ofString "BadText") (322:Nat))), (.mk (PyData.keyHash P (.ofString "__firstlineno__")) (.str (.ofString "__firstlineno__") (325:Nat)) (.int 31 (324:Nat))), (.mk (PyData.keyHash P (.ofString "__static_attributes__")) (.str (.ofString "__static_attributes__") (326:Nat)) (.ref (110:Nat)))] (4:Nat)) #[])) ::
  (106, (.mk (.type "tuple") .none (.seq #[] (0:Nat)) #[])) ::
  (107, (.mk .none .none (.fields #[]) #[])) ::
  (108, (.mk (.type "code") .none (.fields #[(.str (.ofString "BadText") (316:Nat)), (.str (.ofString "BadText") (317:Nat)), (.str (.ofString "/claim/cut.py") (318:Nat)), (.int 31 (0:Nat)), (.int 0 (0:Nat)), (.int 0 (0:Nat)), (.int 0 (0:Nat)), (.int 0 (0:Nat)), (.ref (106:Nat)), (.bool .false), (.int 181 (0:Nat)), (.ref (107:Nat)), .none, .none, .none, .none, (.int 319 (0:Nat)), (.int 31 (0:Nat)), (.str (.ofString "/claim/cut.py") (320:Nat))]) #[])) ::
  (109, (.mk (.type "frame") .none .plain #[(.some (.ref (108:Nat))), (.some (.ref (3:Nat))), (.some (.ref (105:Nat))), .none, (.some (.str (.ofString "postcore.base") (249:Nat))), .none, (.some (.ref (0:Nat)))])) ::
  (113, (.mk (.type "super") .none (.fields #[(.ref (112:Nat)), (.ref (112:Nat)), (.ref (112:Nat))]) #[])) ::
  (114, (.mk (.type "builtin_function_or_method") .none (.fields #[(.builtin "object.__init_subclass__"), (.ref (112:Nat))]) #[])) ::
  (116, (.mk .none .none (.fields #[]) #[])) ::
  (117, (fnO (s := st 11) rfl .none .none #[] (.ofString "octets_of") (0:Nat) [] .none .none .none .none .none .none .none (0:Nat))) ::
  (120, (.mk (.type "tuple") .none (.seq #[] (0:Nat)) #[])) ::
  (121, (.mk (.type "builtin_function_or_method") .none (.fields #[(.builtin "type.__prepare__"), (.type "type")]) #[])) ::
  (122, (.mk (.type "dict") .none (.dict #[(.mk (PyData.keyHash P (.ofString "__module__")) (.str (.ofString "__module__") (351:Nat)) (.str (.ofString "postcore.objects") (336:Nat))), (.mk (PyData.keyHash P (.ofString "__qualname__")) (.str (.ofString "__qualname__") (353:Nat)) (.str (.ofString "Thing") (352:Nat))), (.mk (PyData.keyHash P (.ofString "__firstlineno__")) (.str (.ofString "__firstlineno__") (355:Nat)) (.int 43 (354:Nat))), (.mk (PyData.keyHash P (.ofString "__init__")) (.str (.ofString "__init__") (366:Nat)) (.ref (134:Nat))), (.mk (PyData.keyHash P (.ofString "__static_attributes__")) (.str (.ofString "__static_attributes__") (371:Nat)) (.ref (135:Nat)))] (5:Nat)) #[])) ::
  (123, (.mk (.type "tuple") .none (.seq #[] (0:Nat)) #[])) ::
  (124, (.mk .none .none (.fields #[(.int 45 (0:Nat)), (.int 4 (0:Nat)), (.ref (133:Nat))]) #[])) ::
  (125, (.mk (.type "code") .none (.fields #[(.str (.ofString "Thing") (346:Nat)), (.str (.ofString "Thing") (347:Nat)), (.str (.ofString "/claim/cut.py") (348:Nat)), (.int 43 (0:Nat)), (.int 0 (0:Nat)), (.int 0 (0:Nat)), (.int 0 (0:Nat)), (.int 0 (0:Nat)), (.ref (123:Nat)), (.bool .false), (.int 181 (0:Nat)), (.ref (124:Nat)), .none, .none, .none, .none, (.int 349 (0:Nat)), (.int 43 (0:Nat)), (.str (.ofString "/claim/cut.py") (350:Nat))]) #[])) ::
  (126, (.mk (.type "frame") .none .plain #[(.some (.ref (125:Nat))), (.some (.ref (3:Nat))), (.some (.ref (122:Nat))), .none, (.some (.str (.ofString "postcore.objects") (336:Nat))), .none, (.some (.ref (0:Nat)))])) ::
  (129, (.mk .none .none (.fields #[]) #[])) ::
  (132, (fnO (s := mt 16 0) rfl .none .none #[] (.ofString "Thing.__init__") (0:Nat) [] .none .none .none .none .none .none .none (0:Nat))) ::
  (140, (.mk (.type "super") .none (.fields #[(.ref (137:Nat)), (.ref (137:Nat)), (.ref (137:Nat))]) #[])) ::
  (141, (.mk (.type "builtin_function_or_method") .none (.fields #[(.builtin "object.__init_subclass__"), (.ref (137:Nat))]) #[])) ::
  (142, (.mk (.type "tuple") .none (.seq #[] (0:Nat)) #[])) ::
  (143, (.mk (.type "builtin_function_or_method") .none (.fields #[(.builtin "type.__prepare__"), (.type "type")]) #[])) ::
  (144, (.mk (.type "dict") .none (.dict #[(.mk (PyData.keyHash P (.ofString "__module__")) (.str (.ofString "__module__") (386:Nat)) (.str (.ofString "postcore.objects") (336:Nat))), (.mk (PyData.keyHash P (.ofString "__qualname__")) (.str (.ofString "__qualname__") (388:Nat)) (.str (.ofString "Text") (387:Nat))), (.mk (PyData.keyHash P (.ofString "__firstlineno__")) (.str (.ofString "__firstlineno__") (390:Nat)) (.int 50 (389:Nat))), (.mk (PyData.keyHash P (.ofString "__init__")) (.str (.ofString "__init__") (401:Nat)) (.ref (155:Nat))), (.mk (PyData.keyHash P (.ofString "__static_attributes__")) (.str (.ofString "__static_attributes__") (406:Nat)) (.ref (156:Nat)))] (5:Nat)) #[])) ::
  (145, (.mk (.type "tuple") .none (.seq #[] (0:Nat)) #[])) ::
  (146, (.mk .none .none (.fields #[(.int 52 (0:Nat)), (.int 4 (0:Nat)), (.ref (154:Nat))]) #[])) ::
  (147, (.mk (.type "code") .none (.fields #[(.str (.ofString "Text") (381:Nat)), (.str (.ofString "Text") (382:Nat)), (.str (.ofString "/claim/cut.py") (383:Nat)), (.int 50 (0:Nat)), (.int 0 (0:Nat)), (.int 0 (0:Nat)), (.int 0 (0:Nat)), (.int 0 (0:Nat)), (.ref (145:Nat)), (.bool .false), (.int 181 (0:Nat)), (.ref (146:Nat)), .none, .none, .none, .none, (.int 384 (0:Nat)), (.int 50 (0:Nat)), (.str (.ofString "/claim/cut.py") (385:Nat))]) #[])) ::
  (148, (.mk (.type "frame") .none .plain #[(.some (.ref (147:Nat))), (.some (.ref (3:Nat))), (.some (.ref (144:Nat))), .none, (.some (.str (.ofString "postcore.objects") (336:Nat))), .none, (.some (.ref (0:Nat)))])) ::
  (150, (.mk .none .none (.fields #[]) #[])) ::
  (153, (fnO (s := mt 17 0) rfl .none .none #[] (.ofString "Text.__init__") (0:Nat) [] .none .none .none .none .none .none .none (0:Nat))) ::
  (161, (.mk (.type "super") .none (.fields #[(.ref (158:Nat)), (.ref (158:Nat)), (.ref (158:Nat))]) #[])) ::
  (162, (.mk (.type "builtin_function_or_method") .none (.fields #[(.builtin "object.__init_subclass__"), (.ref (158:Nat))]) #[])) ::
  (163, (.mk (.type "tuple") .none (.seq #[] (0:Nat)) #[])) ::
  (164, (.mk (.type "builtin_function_or_method") .none (.fields #[(.builtin "type.__prepare__"), (.type "type")]) #[])) ::
  (165, (.mk (.type "dict") .none (.dict #[(.mk (PyData.keyHash P (.ofString "__module__")) (.str (.ofString "__module__") (421:Nat)) (.str (.ofString "postcore.objects") (336:Nat))), (.mk (PyData.keyHash P (.ofString "__qualname__")) (.str (.ofString "__qualname__") (423:Nat)) (.str (.ofString "Span") (422:Nat))), (.mk (PyData.keyHash P (.ofString "__firstlineno__")) (.str (.ofString "__firstlineno__") (425:Nat)) (.int 57 (424:Nat))), (.mk (PyData.keyHash P (.ofString "__init__")) (.str (.ofString "__init__") (435:Nat)) (.ref (176:Nat))), (.mk (PyData.keyHash P (.ofString "__static_attributes__")) (.str (.ofString "__static_attributes__") (439:Nat)) (.ref (177:Nat)))] (5:Nat)) #[])) ::
  (166, (.mk (.type "tuple") .none (.seq #[] (0:Nat)) #[])) ::
  (167, (.mk .none .none (.fields #[(.int 59 (0:Nat)), (.int 4 (0:Nat)), (.ref (175:Nat))]) #[])) ::
  (168, (.mk (.type "code") .none (.fields #[(.str (.ofString "Span") (416:Nat)), (.str (.ofString "Span") (417:Nat)), (.str (.ofString "/claim/cut.py") (418:Nat)), (.int 57 (0:Nat)), (.int 0 (0:Nat)), (.int 0 (0:Nat)), (.int 0 (0:Nat)), (.int 0 (0:Nat)), (.ref (166:Nat)), (.bool .false), (.int 181 (0:Nat)), (.ref (167:Nat)), .none, .none, .none, .none, (.int 419 (0:Nat)), (.int 57 (0:Nat)), (.str (.ofString "/claim/cut.py") (420:Nat))]) #[])) ::
  (169, (.mk (.type "frame") .none .plain #[(.some (.ref (168:Nat))), (.some (.ref (3:Nat))), (.some (.ref (165:Nat))), .none, (.some (.str (.ofString "postcore.objects") (336:Nat))), .none, (.some (.ref (0:Nat)))])) ::
  (171, (.mk .none .none (.fields #[]) #[])) ::
  (174, (fnO (s := mt 18 0) rfl .none .none #[] (.ofString "Span.__init__") (0:Nat) [] .none .none .none .none .none .none .none (0:Nat))) ::
  (182, (.mk (.type "super") .none (.fields #[(.ref (179:Nat)), (.ref (179:Nat)), (.ref (179:Nat))]) #[])) ::
  (183, (.mk (.type "builtin_function_or_method") .none (.fields #[(.builtin "object.__init_subclass__"), (.ref (179:Nat))]) #[])) ::
  (185, (.mk .none .none (.fields #[]) #[])) ::
  (188, (fnO (s := st 19) rfl .none .none #[] (.ofString "integer") (0:Nat) [] .none .none .none .none .none .none .none (0:Nat))) ::
  (192, (.mk .none .none (.fields #[]) #[])) ::
  (195, (fnO (s := st 20) rfl .none .none #[] (.ofString "boolean") (0:Nat) [] .none .none .none .none .none .none .none (0:Nat))) ::
  (200, (.mk .none .none (.fields #[]) #[])) ::
  (203, (fnO (s := st 21) rfl .none .none #[] (.ofString "name") (0:Nat) [] .none .none .none .none .none .none .none (0:Nat))) ::
  (207, (.mk .none .none (.fields #[]) #[])) ::
  (210, (fnO (s := st 22) rfl .none .none #[] (.ofString "is_number") (0:Nat) [] .none .none .none .none .none .none .none (0:Nat))) ::
  (214, (.mk .none .none (.fields #[]) #[])) ::
  (217, (fnO (s := st 23) rfl .none .none #[] (.ofString "in_millionths") (0:Nat) [] .none .none .none .none .none .none .none (0:Nat))) ::
  (221, (.mk .none .none (.fields #[]) #[])) ::
  (224, (fnO (s := st 24) rfl .none .none #[] (.ofString "is_in_array") (0:Nat) [] .none .none .none .none .none .none .none (0:Nat))) ::
  (228, (.mk .none .none (.fields #[]) #[])) ::
  (231, (fnO (s := st 25) rfl .none .none #[] (.ofString "access_of") (0:Nat) [] .none .none .none .none .none .none .none (0:Nat))) ::
  (235, (.mk .none .none (.fields #[]) #[])) ::
  (238, (fnO (s := st 26) rfl .none .none #[] (.ofString "can_read") (0:Nat) [] .none .none .none .none .none .none .none (0:Nat))) ::
  (242, (.mk .none .none (.fields #[]) #[])) ::
  (245, (fnO (s := st 27) rfl .none .none #[] (.ofString "can_run") (0:Nat) [] .none .none .none .none .none .none .none (0:Nat))) ::
  (249, (.mk .none .none (.fields #[]) #[])) ::
  (252, (fnO (s := st 28) rfl .none .none #[] (.ofString "check_part") (0:Nat) [] .none .none .none .none .none .none .none (0:Nat))) ::
  (256, (.mk .none .none (.fields #[]) #[])) ::
  (259, (fnO (s := st 29) rfl .none .none #[] (.ofString "part_of") (0:Nat) [] .none .none .none .none .none .none .none (0:Nat))) ::
  (263, (.mk .none .none (.fields #[]) #[])) ::
  (266, (fnO (s := st 30) rfl .none .none #[] (.ofString "with_span") (0:Nat) [] .none .none .none .none .none .none .none (0:Nat))) ::
  (270, (.mk .none .none (.fields #[]) #[])) ::
  (273, (fnO (s := st 31) rfl .none .none #[] (.ofString "is_text_span") (0:Nat) [] .none .none .none .none .none .none .none (0:Nat))) ::
  (277, (.mk .none .none (.fields #[]) #[])) ::
  (280, (fnO (s := st 32) rfl .none .none #[] (.ofString "item") (0:Nat) [] .none .none .none .none .none .none .none (0:Nat))) ::
  (284, (.mk .none .none (.fields #[]) #[])) ::
  (287, (fnO (s := st 33) rfl .none .none #[] (.ofString "octets_of_span") (0:Nat) [] .none .none .none .none .none .none .none (0:Nat))) ::
  (291, (.mk .none .none (.fields #[]) #[])) ::
  (294, (fnO (s := st 34) rfl .none .none #[] (.ofString "thing_octets") (0:Nat) [] .none .none .none .none .none .none .none (0:Nat))) ::
  (298, (.mk .none .none (.fields #[]) #[])) ::
  (301, (fnO (s := st 35) rfl .none .none #[] (.ofString "key_of") (0:Nat) [] .none .none .none .none .none .none .none (0:Nat))) ::
  (304, (.mk (.type "tuple") .none (.seq #[] (0:Nat)) #[])) ::
  (305, (.mk (.type "builtin_function_or_method") .none (.fields #[(.builtin "type.__prepare__"), (.type "type")]) #[])) ::
  (306, (.mk (.type "dict") .none (.dict #[(.mk (PyData.keyHash P (.ofString "__module__")) (.str (.ofString "__module__") (582:Nat)) (.str (.ofString "postcore.scanner") (573:Nat))), (.mk (PyData.keyHash P (.ofString "__qualname__")) (.str (.ofString "__qualname__") (584:Nat)) (.str (.ofString "OctetSource") (583:Nat))), (.mk (PyData.keyHash P (.ofString "__firstlineno__")) (.str (.ofString "__firstlineno__") (586:Nat)) (.int 125 (585:Nat))), (.mk (PyData.keyHash P (.ofString "__init__")) (.str (.ofString "__init__") (596:Nat)) (.ref (318:Nat))), (.mk (PyData.keyHash P (.ofString "place")) (.str (.ofString "place") (604:Nat)) (.ref (326:Nat))), (.mk (PyData.keyHash P (.ofString "next")) (.str (.ofString "next") (611:Nat)) (.ref (333:Nat))), (.mk (PyData.keyHash P (.ofString "back")) (.str (.ofString "back") (618:Nat)) (.ref (340:Nat))), (.mk (PyData.keyHash P (.ofString "__static_attributes__")) (.str (.ofString "__static_attributes__") (621:Nat)) (.ref (341:Nat)))] (8:Nat)) #[])) ::
  (307, (.mk (.type "tuple") .none (.seq #[] (0:Nat)) #[])) ::
  (308, (.mk .none .none (.fields #[(.int 127 (0:Nat)), (.int 4 (0:Nat)), (.ref (317:Nat)), (.int 132 (0:Nat)), (.int 4 (0:Nat)), (.ref (324:Nat)), (.int 135 (0:Nat)), (.int 4 (0:Nat)), (.ref (332:Nat)), (.int 141 (0:Nat)), (.int 4 (0:Nat)), (.ref (339:Nat))]) #[])) ::
  (309, (.mk (.type "code") .none (.fields #[(.str (.ofString "OctetSource") (577:Nat)), (.str (.ofString "OctetSource") (578:Nat)), (.str (.ofString "/claim/cut.py") (579:Nat)), (.int 125 (0:Nat)), (.int 0 (0:Nat)), (.int 0 (0:Nat)), (.int 0 (0:Nat)), (.int 0 (0:Nat)), (.ref (307:Nat)), (.bool .false), (.int 181 (0:Nat)), (.ref (308:Nat)), .none, .none, .none, .none, (.int 580 (0:Nat)), (.int 125 (0:Nat)), (.str (.ofString "/claim/cut.py") (581:Nat))]) #[])) ::
  (310, (.mk (.type "frame") .none .plain #[(.some (.ref (309:Nat))), (.some (.ref (3:Nat))), (.some (.ref (306:Nat))), .none, (.some (.str (.ofString "postcore.scanner") (573:Nat))), .none, (.some (.ref (0:Nat)))])) ::
  (313, (.mk .none .none (.fields #[]) #[])) ::
  (316, (fnO (s := mt 37 0) rfl .none .none #[] (.ofString "OctetSource.__init__") (0:Nat) [] .none .none .none .none .none .none .none (0:Nat))) ::
  (320, (.mk .none .none (.fields #[]) #[])) ::
  (323, (fnO (s := mt 37 1) rfl .none .none #[] (.ofString "OctetSource.place") (0:Nat) [] .none .none .none .none .none .none .none (0:Nat))) ::
  (328, (.mk .none .none (.fields #[]) #[])) ::
  (331, (fnO (s := mt 37 2) rfl .none .none #[] (.ofString "OctetSource.next") (0:Nat) [] .none .none .none .none .none .none .none (0:Nat))) ::
  (335, (.mk .none .none (.fields #[]) #[])) ::
  (338, (fnO (s := mt 37 3) rfl .none .none #[] (.ofString "OctetSource.back") (0:Nat) [] .none .none .none .none .none .none .none (0:Nat))) ::
  (346, (.mk (.type "super") .none (.fields #[(.ref (343:Nat)), (.ref (343:Nat)), (.ref (343:Nat))]) #[])) ::
  (347, (.mk (.type "builtin_function_or_method") .none (.fields #[(.builtin "object.__init_subclass__"), (.ref (343:Nat))]) #[])) ::
  (348, (.mk (.type "tuple") .none (.seq #[] (0:Nat)) #[])) ::
  (349, (.mk (.type "builtin_function_or_method") .none (.fields #[(.builtin "type.__prepare__"), (.type "type")]) #[])) ::
  (350, (.mk (.type "dict") .none (.dict #[(.mk (PyData.keyHash P (.ofString "__module__")) (.str (.ofString "__module__") (640:Nat)) (.str (.ofString "postcore.machine") (629:Nat))), (.mk (PyData.keyHash P (.ofString "__qualname__")) (.str (.ofString "__qualname__") (642:Nat)) (.str (.ofString "Frame") (641:Nat))), (.mk (PyData.keyHash P (.ofString "__firstlineno__")) (.str (.ofString "__firstlineno__") (644:Nat)) (.int 145 (643:Nat))), (.mk (PyData.keyHash P (.ofString "__init__")) (.str (.ofString "__init__") (652:Nat)) (.ref (361:Nat))), (.mk (PyData.keyHash P (.ofString "step")) (.str (.ofString "step") (660:Nat)) (.ref (368:Nat))), (.mk (PyData.keyHash P (.ofString "left")) (.str (.ofString "left") (668:Nat)) (.ref (375:Nat))), (.mk (PyData.keyHash P (.ofString "thing")) (.str (.ofString "thing") (675:Nat)) (.ref (382:Nat))), (.mk (PyData.keyHash P (.ofString "things")) (.str (.ofString "things") (682:Nat)) (.ref (389:Nat))), (.mk (PyData.keyHash P (.ofString "__static_attributes__")) (.str (.ofString "__static_attributes__") (684:Nat)) (.ref (390:Nat)))] (9:Nat)) #[])) ::
  (351, (.mk (.type "tuple") .none (.seq #[] (0:Nat)) #[])) ::
  (352, (.mk .none .none (.fields #[(.int 147 (0:Nat)), (.int 4 (0:Nat)), (.ref (360:Nat)), (.int 150 (0:Nat)), (.int 4 (0:Nat)), (.ref (367:Nat)), (.int 153 (0:Nat)), (.int 4 (0:Nat)), (.ref (374:Nat)), (.int 156 (0:Nat)), (.int 4 (0:Nat)), (.ref (381:Nat)), (.int 159 (0:Nat)), (.int 4 (0:Nat)), (.ref (388:Nat))]) #[])) ::
  (353, (.mk (.type "code") .none (.fields #[(.str (.ofString "Frame") (635:Nat)), (.str (.ofString "Frame") (636:Nat)), (.str (.ofString "/claim/cut.py") (637:Nat)), (.int 145 (0:Nat)), (.int 0 (0:Nat)), (.int 0 (0:Nat)), (.int 0 (0:Nat)), (.int 0 (0:Nat)), (.ref (351:Nat)), (.bool .false), (.int 181 (0:Nat)), (.ref (352:Nat)), .none, .none, .none, .none, (.int 638 (0:Nat)), (.int 145 (0:Nat)), (.str (.ofString "/claim/cut.py") (639:Nat))]) #[])) ::
  (354, (.mk (.type "frame") .none .plain #[(.some (.ref (353:Nat))), (.some (.ref (3:Nat))), (.some (.ref (350:Nat))), .none, (.some (.str (.ofString "postcore.machine") (629:Nat))), .none, (.some (.ref (0:Nat)))])) ::
  (356, (.mk .none .none (.fields #[]) #[])) ::
  (359, (fnO (s := mt 40 0) rfl .none .none #[] (.ofString "Frame.__init__") (0:Nat) [] .none .none .none .none .none .none .none (0:Nat))) ::
  (363, (.mk .none .none (.fields #[]) #[])) ::
  (366, (fnO (s := mt 40 1) rfl .none .none #[] (.ofString "Frame.step") (0:Nat) [] .none .none .none .none .none .none .none (0:Nat))) ::
  (370, (.mk .none .none (.fields #[]) #[])) ::
  (373, (fnO (s := mt 40 2) rfl .none .none #[] (.ofString "Frame.left") (0:Nat) [] .none .none .none .none .none .none .none (0:Nat))) ::
  (377, (.mk .none .none (.fields #[]) #[])) ::
  (380, (fnO (s := mt 40 3) rfl .none .none #[] (.ofString "Frame.thing") (0:Nat) [] .none .none .none .none .none .none .none (0:Nat))) ::
  (384, (.mk .none .none (.fields #[]) #[])) ::
  (387, (fnO (s := mt 40 4) rfl .none .none #[] (.ofString "Frame.things") (0:Nat) [] .none .none .none .none .none .none .none (0:Nat))) ::
  (395, (.mk (.type "super") .none (.fields #[(.ref (392:Nat)), (.ref (392:Nat)), (.ref (392:Nat))]) #[])) ::
  (396, (.mk (.type "builtin_function_or_method") .none (.fields #[(.builtin "object.__init_subclass__"), (.ref (392:Nat))]) #[])) ::
  (398, (.mk (.type "builtin_function_or_method") .none (.fields #[(.builtin "type.__prepare__"), (.type "type")]) #[])) ::
  (399, (.mk (.type "dict") .none (.dict #[(.mk (PyData.keyHash P (.ofString "__module__")) (.str (.ofString "__module__") (699:Nat)) (.str (.ofString "postcore.machine") (629:Nat))), (.mk (PyData.keyHash P (.ofString "__qualname__")) (.str (.ofString "__qualname__") (701:Nat)) (.str (.ofString "ProcFrame") (700:Nat))), (.mk (PyData.keyHash P (.ofString "__firstlineno__")) (.str (.ofString "__firstlineno__") (703:Nat)) (.int 161 (702:Nat))), (.mk (PyData.keyHash P (.ofString "__init__")) (.str (.ofString "__init__") (711:Nat)) (.ref (410:Nat))), (.mk (PyData.keyHash P (.ofString "step")) (.str (.ofString "step") (721:Nat)) (.ref (417:Nat))), (.mk (PyData.keyHash P (.ofString "thing")) (.str (.ofString "thing") (729:Nat)) (.ref (424:Nat))), (.mk (PyData.keyHash P (.ofString "things")) (.str (.ofString "things") (736:Nat)) (.ref (431:Nat))), (.mk (PyData.keyHash P (.ofString "__static_attributes__")) (.str (.ofString "__static_attributes__") (740:Nat)) (.ref (432:Nat)))] (8:Nat)) #[])) ::
  (400, (.mk (.type "tuple") .none (.seq #[] (0:Nat)) #[])) ::
  (401, (.mk .none .none (.fields #[(.int 163 (0:Nat)), (.int 4 (0:Nat)), (.ref (409:Nat)), (.int 168 (0:Nat)), (.int 4 (0:Nat)), (.ref (416:Nat)), (.int 176 (0:Nat)), (.int 4 (0:Nat)), (.ref (423:Nat)), (.int 180 (0:Nat)), (.int 4 (0:Nat)), (.ref (430:Nat))]) #[])) ::
  (402, (.mk (.type "code") .none (.fields #[(.str (.ofString "ProcFrame") (694:Nat)), (.str (.ofString "ProcFrame") (695:Nat)), (.str (.ofString "/claim/cut.py") (696:Nat)), (.int 161 (0:Nat)), (.int 0 (0:Nat)), (.int 0 (0:Nat)), (.int 0 (0:Nat)), (.int 0 (0:Nat)), (.ref (400:Nat)), (.bool .false), (.int 181 (0:Nat)), (.ref (401:Nat)), .none, .none, .none, .none, (.int 697 (0:Nat)), (.int 161 (0:Nat)), (.str (.ofString "/claim/cut.py") (698:Nat))]) #[])) ::
  (403, (.mk (.type "frame") .none .plain #[(.some (.ref (402:Nat))), (.some (.ref (3:Nat))), (.some (.ref (399:Nat))), .none, (.some (.str (.ofString "postcore.machine") (629:Nat))), .none, (.some (.ref (0:Nat)))])) ::
  (405, (.mk .none .none (.fields #[]) #[])) ::
  (408, (fnO (s := mt 41 0) rfl .none .none #[] (.ofString "ProcFrame.__init__") (0:Nat) [] .none .none .none .none .none .none .none (0:Nat))) ::
  (412, (.mk .none .none (.fields #[]) #[])) ::
  (415, (fnO (s := mt 41 1) rfl .none .none #[] (.ofString "ProcFrame.step") (0:Nat) [] .none .none .none .none .none .none .none (0:Nat))) ::
  (419, (.mk .none .none (.fields #[]) #[])) ::
  (422, (fnO (s := mt 41 2) rfl .none .none #[] (.ofString "ProcFrame.thing") (0:Nat) [] .none .none .none .none .none .none .none (0:Nat))) ::
  (426, (.mk .none .none (.fields #[]) #[])) ::
  (429, (fnO (s := mt 41 3) rfl .none .none #[] (.ofString "ProcFrame.things") (0:Nat) [] .none .none .none .none .none .none .none (0:Nat))) ::
  (435, (.mk (.type "super") .none (.fields #[(.ref (434:Nat)), (.ref (434:Nat)), (.ref (434:Nat))]) #[])) ::
  (436, (.mk (.type "builtin_function_or_method") .none (.fields #[(.builtin "object.__init_subclass__"), (.ref (434:Nat))]) #[])) ::
  (438, (.mk (.type "builtin_function_or_method") .none (.fields #[(.builtin "type.__prepare__"), (.type "type")]) #[])) ::
  (439, (.mk (.type "dict") .none (.dict #[(.mk (PyData.keyHash P (.ofString "__module__")) (.str (.ofString "__module__") (751:Nat)) (.str (.ofString "postcore.machine") (629:Nat))), (.mk (PyData.keyHash P (.ofString "__qualname__")) (.str (.ofString "__qualname__") (753:Nat)) (.str (.ofString "SourceFrame") (752:Nat))), (.mk (PyData.keyHash P (.ofString "__firstlineno__")) (.str (.ofString "__firstlineno__") (755:Nat)) (.int 182 (754:Nat))), (.mk (PyData.keyHash P (.ofString "__init__")) (.str (.ofString "__init__") (764:Nat)) (.ref (451:Nat))), (.mk (PyData.keyHash P (.ofString "step")) (.str (.ofString "step") (773:Nat)) (.ref (458:Nat))), (.mk (PyData.keyHash P (.ofString "thing")) (.str (.ofString "thing") (780:Nat)) (.ref (465:Nat))), (.mk (PyData.keyHash P (.ofString "things")) (.str (.ofString "things") (787:Nat)) (.ref (472:Nat))), (.mk (PyData.keyHash P (.ofString "__static_attributes__")) (.str (.ofString "__static_attributes__") (791:Nat)) (.ref (473:Nat)))] (8:Nat)) #[])) ::
  (440, (.mk (.type "tuple") .none (.seq #[] (0:Nat)) #[])) ::
  (441, (.mk .none .none (.fields #[(.int 184 (0:Nat)), (.int 4 (0:Nat)), (.ref (450:Nat)), (.int 189 (0:Nat)), (.int 4 (0:Nat)), (.ref (457:Nat)), (.int 198 (0:Nat)), (.int 4 (0:Nat)), (.ref (464:Nat)), (.int 201 (0:Nat)), (.int 4 (0:Nat)), (.ref (471:Nat))]) #[])) ::
  (442, (.mk (.type "code") .none (.fields #[(.str (.ofString "SourceFrame") (746:Nat)), (.str (.ofString "SourceFrame") (747:Nat)), (.str (.ofString "/claim/cut.py") (748:Nat)), (.int 182 (0:Nat)), (.int 0 (0:Nat)), (.int 0 (0:Nat)), (.int 0 (0:Nat)), (.int 0 (0:Nat)), (.ref (440:Nat)), (.bool .false), (.int 181 (0:Nat)), (.ref (441:Nat)), .none, .none, .none, .none, (.int 749 (0:Nat)), (.int 182 (0:Nat)), (.str (.ofString "/claim/cut.py") (750:Nat))]) #[])) ::
  (443, (.mk (.type "frame") .none .plain #[(.some (.ref (442:Nat))), (.some (.ref (3:Nat))), (.some (.ref (439:Nat))), .none, (.some (.str (.ofString "postcore.machine") (629:Nat))), .none, (.some (.ref (0:Nat)))])) ::
  (446, (.mk .none .none (.fields #[]) #[])) ::
  (449, (fnO (s := mt 42 0) rfl .none .none #[] (.ofString "SourceFrame.__init__") (0:Nat) [] .none .none .none .none .none .none .none (0:Nat))) ::
  (453, (.mk .none .none (.fields #[]) #[])) ::
  (456, (fnO (s := mt 42 1) rfl .none .none #[] (.ofString "SourceFrame.step") (0:Nat) [] .none .none .none .none .none .none .none (0:Nat))) ::
  (460, (.mk .none .none (.fields #[]) #[])) ::
  (463, (fnO (s := mt 42 2) rfl .none .none #[] (.ofString "SourceFrame.thing") (0:Nat) [] .none .none .none .none .none .none .none (0:Nat))) ::
  (467, (.mk .none .none (.fields #[]) #[])) ::
  (470, (fnO (s := mt 42 3) rfl .none .none #[] (.ofString "SourceFrame.things") (0:Nat) [] .none .none .none .none .none .none .none (0:Nat))) ::
  (476, (.mk (.type "super") .none (.fields #[(.ref (475:Nat)), (.ref (475:Nat)), (.ref (475:Nat))]) #[])) ::
  (477, (.mk (.type "builtin_function_or_method") .none (.fields #[(.builtin "object.__init_subclass__"), (.ref (475:Nat))]) #[])) ::
  (479, (.mk (.type "builtin_function_or_method") .none (.fields #[(.builtin "type.__prepare__"), (.type "type")]) #[])) ::
  (480, (.mk (.type "dict") .none (.dict #[(.mk (PyData.keyHash P (.ofString "__module__")) (.str (.ofString "__module__") (802:Nat)) (.str (.ofString "postcore.machine") (629:Nat))), (.mk (PyData.keyHash P (.ofString "__qualname__")) (.str (.ofString "__qualname__") (804:Nat)) (.str (.ofString "ThingFrame") (803:Nat))), (.mk (PyData.keyHash P (.ofString "__firstlineno__")) (.str (.ofString "__firstlineno__") (806:Nat)) (.int 203 (805:Nat))), (.mk (PyData.keyHash P (.ofString "__init__")) (.str (.ofString "__init__") (814:Nat)) (.ref (491:Nat))), (.mk (PyData.keyHash P (.ofString "step")) (.str (.ofString "step") (822:Nat)) (.ref (498:Nat))), (.mk (PyData.keyHash P (.ofString "thing")) (.str (.ofString "thing") (829:Nat)) (.ref (505:Nat))), (.mk (PyData.keyHash P (.ofString "things")) (.str (.ofString "things") (836:Nat)) (.ref (512:Nat))), (.mk (PyData.keyHash P (.ofString "__static_attributes__")) (.str (.ofString "__static_attributes__") (839:Nat)) (.ref (513:Nat)))] (8:Nat)) #[])) ::
  (481, (.mk (.type "tuple") .none (.seq #[] (0:Nat)) #[])) ::
  (482, (.mk .none .none (.fields #[(.int 205 (0:Nat)), (.int 4 (0:Nat)), (.ref (490:Nat)), (.int 209 (0:Nat)), (.int 4 (0:Nat)), (.ref (497:Nat)), (.int 213 (0:Nat)), (.int 4 (0:Nat)), (.ref (504:Nat)), (.int 216 (0:Nat)), (.int 4 (0:Nat)), (.ref (511:Nat))]) #[])) ::
  (483, (.mk (.type "code") .none (.fields #[(.str (.ofString "ThingFrame") (797:Nat)), (.str (.ofString "ThingFrame") (798:Nat)), (.str (.ofString "/claim/cut.py") (799:Nat)), (.int 203 (0:Nat)), (.int 0 (0:Nat)), (.int 0 (0:Nat)), (.int 0 (0:Nat)), (.int 0 (0:Nat)), (.ref (481:Nat)), (.bool .false), (.int 181 (0:Nat)), (.ref (482:Nat)), .none, .none, .none, .none, (.int 800 (0:Nat)), (.int 203 (0:Nat)), (.str (.ofString "/claim/cut.py") (801:Nat))]) #[])) ::
  (484, (.mk (.type "frame") .none .plain #[(.some (.ref (483:Nat))), (.some (.ref (3:Nat))), (.some (.ref (480:Nat))), .none, (.some (.str (.ofString "postcore.machine") (629:Nat))), .none, (.some (.ref (0:Nat)))])) ::
  (486, (.mk .none .none (.fields #[]) #[])) ::
  (489, (fnO (s := mt 43 0) rfl .none .none #[] (.ofString "ThingFrame.__init__") (0:Nat) [] .none .none .none .none .none .none .none (0:Nat))) ::
  (493, (.mk .none .none (.fields #[]) #[])) ::
  (496, (fnO (s := mt 43 1) rfl .none .none #[] (.ofString "ThingFrame.step") (0:Nat) [] .none .none .none .none .none .none .none (0:Nat))) ::
  (500, (.mk .none .none (.fields #[]) #[])) ::
  (503, (fnO (s := mt 43 2) rfl .none .none #[] (.ofString "ThingFrame.thing") (0:Nat) [] .none .none .none .none .none .none .none (0:Nat))) ::
  (507, (.mk .none .none (.fields #[]) #[])) ::
  (510, (fnO (s := mt 43 3) rfl .none .none #[] (.ofString "ThingFrame.things") (0:Nat) [] .none .none .none .none .none .none .none (0:Nat))) ::
  (516, (.mk (.type "super") .none (.fields #[(.ref (515:Nat)), (.ref (515:Nat)), (.ref (515:Nat))]) #[])) ::
  (517, (.mk (.type "builtin_function_or_method") .none (.fields #[(.builtin "object.__init_subclass__"), (.ref (515:Nat))]) #[])) ::
  (519, (.mk .none .none (.fields #[]) #[])) ::
  (522, (fnO (s := st 44) rfl .none .none #[] (.ofString "machine_lookup") (0:Nat) [] .none .none .none .none .none .none .none (0:Nat))) ::
  (525, (.mk (.type "tuple") .none (.seq #[] (0:Nat)) #[])) ::
  (526, (.mk (.type "builtin_function_or_method") .none (.fields #[(.builtin "type.__prepare__"), (.type "type")]) #[])) ::
  (527, (.mk (.type "dict") .none (.dict #[(.mk (PyData.keyHash P (.ofString "__module__")) (.str (.ofString "__module__") (859:Nat)) (.str (.ofString "postcore.machine") (629:Nat))), (.mk (PyData.keyHash P (.ofString "__qualname__")) (.str (.ofString "__qualname__") (861:Nat)) (.str (.ofString "MachineCore") (860:Nat))), (.mk (PyData.keyHash P (.ofString "__firstlineno__")) (.str (.ofString "__firstlineno__") (863:Nat)) (.int 223 (862:Nat))), (.mk (PyData.keyHash P (.ofString "__init__")) (.str (.ofString "__init__") (876:Nat)) (.ref (538:Nat))), (.mk (PyData.keyHash P (.ofString "begin")) (.str (.ofString "begin") (889:Nat)) (.ref (545:Nat))), (.mk (PyData.keyHash P (.ofString "push_frame")) (.str (.ofString "push_frame") (897:Nat)) (.ref (552:Nat))), (.mk (PyData.keyHash P (.ofString "drop")) (.str (.ofString "drop") (906:Nat)) (.ref (559:Nat))), (.mk (PyData.keyHash P (.ofString "cut_frames")) (.str (.ofString "cut_frames") (915:Nat)) (.ref (566:Nat))), (.mk (PyData.keyHash P (.ofString "frames_row")) (.str (.ofString "frames_row") (922:Nat)) (.ref (573:Nat))), (.mk (PyData.keyHash P (.ofString "place_of_frame")) (.str (.ofString "place_of_frame") (932:Nat)) (.ref (582:Nat))), (.mk (PyData.keyHash P (.ofString "stop")) (.str (.ofString "stop") (940:Nat)) (.ref (589:Nat))), (.mk (PyData.keyHash P (.ofString "trace")) (.str (.ofString "trace") (949:Nat)) (.ref (596:Nat))), (.mk (PyData.keyHash P (.ofString "push_operand")) (.str (.ofString "push_operand") (957:Nat)) (.ref (603:Nat))), (.mk (PyData.keyHash P (.ofString "met")) (.str (.ofString "met") (965:Nat)) (.ref (610:Nat))), (.mk (PyData.keyHash P (.ofString "execute")) (.str (.ofString "execute") (973:Nat)) (.ref (617:Nat))), (.mk (PyData.keyHash P (.ofString "run_proc")) (.str (.ofString "run_proc") (981:Nat)) (.ref (624:Nat))), (.mk (PyData.keyHash P (.ofString "run_source")) (.str (.ofString "run_source") (989:Nat)) (.ref (631:Nat))), (.mk (PyData.keyHash P (.ofString "lookup")) (.str (.ofString "lookup") (997:Nat)) (.ref (638:Nat))), (.mk (PyData.keyHash P (.ofString "value_of")) (.str (.ofString "value_of") (1006:Nat)) (.ref (645:Nat))), (.mk (PyData.keyHash P (.ofString "run_name")) (.str (.ofString "run_name") (1015:Nat)) (.ref (652:Nat))), (.mk (PyData.keyHash P (.ofString "call")) (.str (.ofString "call") (1026:Nat)) (.ref (659:Nat))), (.mk (PyData.keyHash P (.ofString "scanned")) (.str (.ofString "scanned") (1034:Nat)) (.ref (666:Nat))), (.mk (PyData.keyHash P (.ofString "tell")) (.str (.ofString "tell") (1042:Nat)) (.ref (673:Nat))), (.mk (PyData.keyHash P (.ofString "failed")) (.str (.ofString "failed") (1052:Nat)) (.ref (680:Nat))), (.mk (PyData.keyHash P (.ofString "step")) (.str (.ofString "step") (1061:Nat)) (.ref (687:Nat))), (.mk (PyData.keyHash P (.ofString "go_on")) (.str (.ofString "go_on") (1072:Nat)) (.ref (695:Nat))), (.mk (PyData.keyHash P (.ofString "run")) (.str (.ofString "run") (1081:Nat)) (.ref (702:Nat))), (.mk (PyData.keyHash P (.ofString "run_thing")) (.str (.ofString "run_thing") (1090:Nat)) (.ref (709:Nat))), (.mk (PyData.keyHash P (.ofString "install")) (.str (.ofString "install") (1098:Nat)) (.ref (716:Nat))), (.mk (PyData.keyHash P (.ofString "__static_attributes__")) (.str (.ofString "__static_attributes__") (1125:Nat)) (.ref (717:Nat)))] (30:Nat)) #[])) ::
  (528, (.mk (.type "tuple") .none (.seq #[] (0:Nat)) #[])) ::
  (529, (.mk .none .none (.fields (List.toArray ((.int 225 (0:Nat)) :: (.int 4 (0:Nat)) :: (.ref (537:Nat)) :: (.int 228 (0:Nat)) :: (.int 4 (0:Nat)) :: (.ref (544:Nat)) :: (.int 256 (0:Nat)) :: (.int 4 (0:Nat)) :: (.ref (551:Nat)) :: (.int 261 (0:Nat)) :: (.int 4 (0:Nat)) :: (.ref (558:Nat)) :: (.int 267 (0:Nat)) :: (.int 4 (0:Nat)) :: (.ref (565:Nat)) :: (.int 272 (0:Nat)) :: (.int 4 (0:Nat)) :: (.ref (572:Nat)) :: (.int 275 (0:Nat)) :: (.int 4 (0:Nat)) :: (.ref (581:Nat)) :: (.int 283 (0:Nat)) :: (.int 4 (0:Nat)) :: (.ref (588:Nat)) :: (.int 292 (0:Nat)) :: (.int 4 (0:Nat)) :: (.ref (595:Nat)) :: (.int 296 (0:Nat)) :: (.int 4 (0:Nat)) :: (.ref (602:Nat)) :: (.int 300 (0:Nat)) :: (.int 4 (0:Nat)) :: (.ref (609:Nat)) :: (.int 312 (0:Nat)) :: (.int 4 (0:Nat)) :: (.ref (616:Nat)) :: (.int 318 (0:Nat)) :: (.int 4 (0:Nat)) :: (.ref (623:Nat)) :: (.int 324 (0:Nat)) :: (.int 4 (0:Nat)) :: (.ref (630:Nat)) :: (.int 332 (0:Nat)) :: (.int 4 (0:Nat)) :: (.ref (637:Nat)) :: (.int 335 (0:Nat)) :: (.int 4 (0:Nat)) :: (.ref (644:Nat)) :: (.int 341 (0:Nat)) :: (.int 4 (0:Nat)) :: (.ref (651:Nat)) :: (.int 350 (0:Nat)) :: (.int 4 (0:Nat)) :: (.ref (658:Nat)) :: (.int 365 (0:Nat)) :: (.int 4 (0:Nat)) :: (.ref (665:Nat)) :: (.int 368 (0:Nat)) :: (.int 4 (0:Nat)) :: (.ref (672:Nat)) :: (.int 372 (0:Nat)) :: (.int 4 (0:Nat)) :: (.ref (679:Nat)) :: (.int 380 (0:Nat)) :: (.int 4 (0:Nat)) :: (.ref (686:Nat)) :: (.int 391 (0:Nat)) :: (.int 4 (0:Nat)) :: (.ref (694:Nat)) :: (.int 404 (0:Nat)) :: (.int 4 (0:Nat)) :: (.ref (701:Nat)) :: (.int 408 (0:Nat)) :: (.int 4 (0:Nat)) :: (.ref (708:Nat)) :: (.int 411 (0:Nat)) :: (.int 4 (0:Nat)) :: (.ref (715:Nat)) :: []))) #[])) ::
  (530, (.mk (.type "code") .none (.fields #[(.str (.ofString "MachineCore") (854:Nat)), (.str (.ofString "MachineCore") (855:Nat)), (.str (.ofString "/claim/cut.py") (856:Nat)), (.int 223 (0:Nat)), (.int 0 (0:Nat)), (.int 0 (0:Nat)), (.int 0 (0:Nat)), (.int 0 (0:Nat)), (.ref (528:Nat)), (.bool .false), (.int 181 (0:Nat)), (.ref (529:Nat)), .none, .none, .none, .none, (.int 857 (0:Nat)), (.int 223 (0:Nat)), (.str (.ofString "/claim/cut.py") (858:Nat))]) #[])) ::
  (531, (.mk (.type "frame") .none .plain #[(.some (.ref (530:Nat))), (.some (.ref (3:Nat))), (.some (.ref (527:Nat))), .none, (.some (.str (.ofString "postcore.machine") (629:Nat))), .none, (.some (.ref (0:Nat)))])) ::
  (533, (.mk .none .none (.fields #[]) #[])) ::
  (536, (fnO (s := mt 45 0) rfl .none .none #[] (.ofString "MachineCore.__init__") (0:Nat) [] .none .none .none .none .none .none .none (0:Nat))) ::
  (540, (.mk .none .none (.fields #[]) #[])) ::
  (543, (fnO (s := mt 45 1) rfl .none .none #[] (.ofString "MachineCore.begin") (0:Nat) [] .none .none .none .none .none .none .none (0:Nat))) ::
  (547, (.mk .none .none (.fields #[]) #[])) ::
  (550, (fnO (s := mt 45 2) rfl .none .none #[] (.ofString "MachineCore.push_frame") (0:Nat) [] .none .none .none .none .none .none .none (0:Nat))) ::
  (554, (.mk .none .none (.fields #[]) #[])) ::
  (557, (fnO (s := mt 45 3) rfl .none .none #[] (.ofString "MachineCore.drop") (0:Nat) [] .none .none .none .none .none .none .none (0:Nat))) ::
  (561, (.mk .none .none (.fields #[]) #[])) ::
  (564, (fnO (s := mt 45 4) rfl .none .none #[] (.ofString "MachineCore.cut_frames") (0:Nat) [] .none .none .none .none .none .none .none (0:Nat))) ::
  (568, (.mk .none .none (.fields #[]) #[])) ::
  (571, (fnO (s := mt 45 5) rfl .none .none #[] (.ofString "MachineCore.frames_row") (0:Nat) [] .none .none .none .none .none .none .none (0:Nat))) ::
  (577, (.mk .none .none (.fields #[]) #[])) ::
  (580, (fnO (s := mt 45 6) rfl .none .none #[] (.ofString "MachineCore.place_of_frame") (0:Nat) [] .none .none .none .none .none .none .none (0:Nat))) ::
  (584, (.mk .none .none (.fields #[]) #[])) ::
  (587, (fnO (s := mt 45 7) rfl .none .none #[] (.ofString "MachineCore.stop") (0:Nat) [] .none .none .none .none .none .none .none (0:Nat))) ::
  (591, (.mk .none .none (.fields #[]) #[])) ::
  (594, (fnO (s := mt 45 8) rfl .none .none #[] (.ofString "MachineCore.trace") (0:Nat) [] .none .none .none .none .none .none .none (0:Nat))) ::
  (598, (.mk .none .none (.fields #[]) #[])) ::
  (601, (fnO (s := mt 45 9) rfl .none .none #[] (.ofString "MachineCore.push_operand") (0:Nat) [] .none .none .none .none .none .none .none (0:Nat))) ::
  (605, (.mk .none .none (.fields #[]) #[])) ::
  (608, (fnO (s := mt 45 10) rfl .none .none #[] (.ofString "MachineCore.met") (0:Nat) [] .none .none .none .none .none .none .none (0:Nat))) ::
  (612, (.mk .none .none (.fields #[]) #[])) ::
  (615, (fnO (s := mt 45 11) rfl .none .none #[] (.ofString "MachineCore.execute") (0:Nat) [] .none .none .none .none .none .none .none (0:Nat))) ::
  (619, (.mk .none .none (.fields #[]) #[])) ::
  (622, (fnO (s := mt 45 12) rfl .none .none #[] (.ofString "MachineCore.run_proc") (0:Nat) [] .none .none .none .none .none .none .none (0:Nat))) ::
  (626, (.mk .none .none (.fields #[]) #[])) ::
  (629, (fnO (s := mt 45 13) rfl .none .none #[] (.ofString "MachineCore.run_source") (0:Nat) [] .none .none .none .none .none .none .none (0:Nat))) ::
  (633, (.mk .none .none (.fields #[]) #[])) ::
  (636, (fnO (s := mt 45 14) rfl .none .none #[] (.ofString "MachineCore.lookup") (0:Nat) [] .none .none .none .none .none .none .none (0:Nat))) ::
  (640, (.mk .none .none (.fields #[]) #[])) ::
  (643, (fnO (s := mt 45 15) rfl .none .none #[] (.ofString "MachineCore.value_of") (0:Nat) [] .none .none .none .none .none .none .none (0:Nat))) ::
  (647, (.mk .none .none (.fields #[]) #[])) ::
  (650, (fnO (s := mt 45 16) rfl .none .none #[] (.ofString "MachineCore.run_name") (0:Nat) [] .none .none .none .none .none .none .none (0:Nat))) ::
  (654, (.mk .none .none (.fields #[]) #[])) ::
  (657, (fnO (s := mt 45 17) rfl .none .none #[] (.ofString "MachineCore.call") (0:Nat) [] .none .none .none .none .none .none .none (0:Nat))) ::
  (661, (.mk .none .none (.fields #[]) #[])) ::
  (664, (fnO (s := mt 45 18) rfl .none .none #[] (.ofString "MachineCore.scanned") (0:Nat) [] .none .none .none .none .none .none .none (0:Nat))) ::
  (668, (.mk .none .none (.fields #[]) #[])) ::
  (671, (fnO (s := mt 45 19) rfl .none .none #[] (.ofString "MachineCore.tell") (0:Nat) [] .none .none .none .none .none .none .none (0:Nat))) ::
  (675, (.mk .none .none (.fields #[]) #[])) ::
  (678, (fnO (s := mt 45 20) rfl .none .none #[] (.ofString "MachineCore.failed") (0:Nat) [] .none .none .none .none .none .none .none (0:Nat))) ::
  (682, (.mk .none .none (.fields #[]) #[])) ::
  (685, (fnO (s := mt 45 21) rfl .none .none #[] (.ofString "MachineCore.step") (0:Nat) [] .none .none .none .none .none .none .none (0:Nat))) ::
  (690, (.mk .none .none (.fields #[]) #[])) ::
  (693, (fnO (s := mt 45 22) rfl .none .none #[] (.ofString "MachineCore.go_on") (0:Nat) [] .none .none .none .none .none .none .none (0:Nat))) ::
  (697, (.mk .none .none (.fields #[]) #[])) ::
  (700, (fnO (s := mt 45 23) rfl .none .none #[] (.ofString "MachineCore.run") (0:Nat) [] .none .none .none .none .none .none .none (0:Nat))) ::
  (704, (.mk .none .none (.fields #[]) #[])) ::
  (707, (fnO (s := mt 45 24) rfl .none .none #[] (.ofString "MachineCore.run_thing") (0:Nat) [] .none .none .none .none .none .none .none (0:Nat))) ::
  (711, (.mk .none .none (.fields #[]) #[])) ::
  (714, (fnO (s := mt 45 25) rfl .none .none #[] (.ofString "MachineCore.install") (0:Nat) [] .none .none .none .none .none .none .none (0:Nat))) ::
  (722, (.mk (.type "super") .none (.fields #[(.ref (719:Nat)), (.ref (719:Nat)), (.ref (719:Nat))]) #[])) ::
  (723, (.mk (.type "builtin_function_or_method") .none (.fields #[(.builtin "object.__init_subclass__"), (.ref (719:Nat))]) #[])) ::
  (724, (.mk (.type "tuple") .none (.seq #[] (0:Nat)) #[])) ::
  (725, (.mk (.type "builtin_function_or_method") .none (.fields #[(.builtin "type.__prepare__"), (.type "type")]) #[])) ::
  (726, (.mk (.type "dict") .none (.dict #[(.mk (PyData.keyHash P (.ofString "__module__")) (.str (.ofString "__module__") (1142:Nat)) (.str (.ofString "postcore.stacks") (1133:Nat))), (.mk (PyData.keyHash P (.ofString "__qualname__")) (.str (.ofString "__qualname__") (1144:Nat)) (.str (.ofString "Stack") (1143:Nat))), (.mk (PyData.keyHash P (.ofString "__firstlineno__")) (.str (.ofString "__firstlineno__") (1146:Nat)) (.int 414 (1145:Nat))), (.mk (PyData.keyHash P (.ofString "__init__")) (.str (.ofString "__init__") (1154:Nat)) (.ref (737:Nat))), (.mk (PyData.keyHash P (.ofString "many")) (.str (.ofString "many") (1162:Nat)) (.ref (745:Nat))), (.mk (PyData.keyHash P (.ofString "push")) (.str (.ofString "push") (1170:Nat)) (.ref (752:Nat))), (.mk (PyData.keyHash P (.ofString "push_all")) (.str (.ofString "push_all") (1178:Nat)) (.ref (759:Nat))), (.mk (PyData.keyHash P (.ofString "pop")) (.str (.ofString "pop") (1185:Nat)) (.ref (766:Nat))), (.mk (PyData.keyHash P (.ofString "at")) (.str (.ofString "at") (1193:Nat)) (.ref (773:Nat))), (.mk (PyData.keyHash P (.ofString "top")) (.str (.ofString "top") (1201:Nat)) (.ref (780:Nat))), (.mk (PyData.keyHash P (.ofString "take")) (.str (.ofString "take") (1209:Nat)) (.ref (787:Nat))), (.mk (PyData.keyHash P (.ofString "cut")) (.str (.ofString "cut") (1217:Nat)) (.ref (794:Nat))), (.mk (PyData.keyHash P (.ofString "rolled")) (.str (.ofString "rolled") (1226:Nat)) (.ref (801:Nat))), (.mk (PyData.keyHash P (.ofString "to_mark")) (.str (.ofString "to_mark") (1233:Nat)) (.ref (808:Nat))), (.mk (PyData.keyHash P (.ofString "snapshot")) (.str (.ofString "snapshot") (1240:Nat)) (.ref (815:Nat))), (.mk (PyData.keyHash P (.ofString "put_back")) (.str (.ofString "put_back") (1248:Nat)) (.ref (822:Nat))), (.mk (PyData.keyHash P (.ofString "__static_attributes__")) (.str (.ofString "__static_attributes__") (1251:Nat)) (.ref (823:Nat)))] (17:Nat)) #[])) ::
  (727, (.mk (.type "tuple") .none (.seq #[] (0:Nat)) #[])) ::
  (728, (.mk .none .none (.fields #[(.int 416 (0:Nat)), (.int 4 (0:Nat)), (.ref (736:Nat)), (.int 421 (0:Nat)), (.int 4 (0:Nat)), (.ref (743:Nat)), (.int 424 (0:Nat)), (.int 4 (0:Nat)), (.ref (751:Nat)), (.int 429 (0:Nat)), (.int 4 (0:Nat)), (.ref (758:Nat)), (.int 432 (0:Nat)), (.int 4 (0:Nat)), (.ref (765:Nat)), (.int 437 (0:Nat)), (.int 4 (0:Nat)), (.ref (772:Nat)), (.int 444 (0:Nat)), (.int 4 (0:Nat)), (.ref (779:Nat)), (.int 451 (0:Nat)), (.int 4 (0:Nat)), (.ref (786:Nat)), (.int 454 (0:Nat)), (.int 4 (0:Nat)), (.ref (793:Nat)), (.int 457 (0:Nat)), (.int 4 (0:Nat)), (.ref (800:Nat)), (.int 460 (0:Nat)), (.int 4 (0:Nat)), (.ref (807:Nat)), (.int 463 (0:Nat)), (.int 4 (0:Nat)), (.ref (814:Nat)), (.int 466 (0:Nat)), (.int 4 (0:Nat)), (.ref (821:Nat))]) #[])) ::
  (729, (.mk (.type "code") .none (.fields #[(.str (.ofString "Stack") (1137:Nat)), (.str (.ofString "Stack") (1138:Nat)), (.str (.ofString "/claim/cut.py") (1139:Nat)), (.int 414 (0:Nat)), (.int 0 (0:Nat)), (.int 0 (0:Nat)), (.int 0 (0:Nat)), (.int 0 (0:Nat)), (.ref (727:Nat)), (.bool .false), (.int 181 (0:Nat)), (.ref (728:Nat)), .none, .none, .none, .none, (.int 1140 (0:Nat)), (.int 414 (0:Nat)), (.str (.ofString "/claim/cut.py") (1141:Nat))]) #[])) ::
  (730, (.mk (.type "frame") .none .plain #[(.some (.ref (729:Nat))), (.some (.ref (3:Nat))), (.some (.ref (726:Nat))), .none, (.some (.str (.ofString "postcore.stacks") (1133:Nat))), .none, (.some (.ref (0:Nat)))])) ::
  (732, (.mk .none .none (.fields #[]) #[])) ::
  (735, (fnO (s := mt 47 0) rfl .none .none #[] (.ofString "Stack.__init__") (0:Nat) [] .none .none .none .none .none .none .none (0:Nat))) ::
  (739, (.mk .none .none (.fields #[]) #[])) ::
  (742, (fnO (s := mt 47 1) rfl .none .none #[] (.ofString "Stack.many") (0:Nat) [] .none .none .none .none .none .none .none (0:Nat))) ::
  (747, (.mk .none .none (.fields #[]) #[])) ::
  (750, (fnO (s := mt 47 2) rfl .none .none #[] (.ofString "Stack.push") (0:Nat) [] .none .none .none .none .none .none .none (0:Nat))) ::
  (754, (.mk .none .none (.fields #[]) #[])) ::
  (757, (fnO (s := mt 47 3) rfl .none .none #[] (.ofString "Stack.push_all") (0:Nat) [] .none .none .none .none .none .none .none (0:Nat))) ::
  (761, (.mk .none .none (.fields #[]) #[])) ::
  (764, (fnO (s := mt 47 4) rfl .none .none #[] (.ofString "Stack.pop") (0:Nat) [] .none .none .none .none .none .none .none (0:Nat))) ::
  (768, (.mk .none .none (.fields #[]) #[])) ::
  (771, (fnO (s := mt 47 5) rfl .none .none #[] (.ofString "Stack.at") (0:Nat) [] .none .none .none .none .none .none .none (0:Nat))) ::
  (775, (.mk .none .none (.fields #[]) #[])) ::
  (778, (fnO (s := mt 47 6) rfl .none .none #[] (.ofString "Stack.top") (0:Nat) [] .none .none .none .none .none .none .none (0:Nat))) ::
  (782, (.mk .none .none (.fields #[]) #[])) ::
  (785, (fnO (s := mt 47 7) rfl .none .none #[] (.ofString "Stack.take") (0:Nat) [] .none .none .none .none .none .none .none (0:Nat))) ::
  (789, (.mk .none .none (.fields #[]) #[])) ::
  (792, (fnO (s := mt 47 8) rfl .none .none #[] (.ofString "Stack.cut") (0:Nat) [] .none .none .none .none .none .none .none (0:Nat))) ::
  (796, (.mk .none .none (.fields #[]) #[])) ::
  (799, (fnO (s := mt 47 9) rfl .none .none #[] (.ofString "Stack.rolled") (0:Nat) [] .none .none .none .none .none .none .none (0:Nat))) ::
  (803, (.mk .none .none (.fields #[]) #[])) ::
  (806, (fnO (s := mt 47 10) rfl .none .none #[] (.ofString "Stack.to_mark") (0:Nat) [] .none .none .none .none .none .none .none (0:Nat))) ::
  (810, (.mk .none .none (.fields #[]) #[])) ::
  (813, (fnO (s := mt 47 11) rfl .none .none #[] (.ofString "Stack.snapshot") (0:Nat) [] .none .none .none .none .none .none .none (0:Nat))) ::
  (817, (.mk .none .none (.fields #[]) #[])) ::
  (820, (fnO (s := mt 47 12) rfl .none .none #[] (.ofString "Stack.put_back") (0:Nat) [] .none .none .none .none .none .none .none (0:Nat))) ::
  (828, (.mk (.type "super") .none (.fields #[(.ref (825:Nat)), (.ref (825:Nat)), (.ref (825:Nat))]) #[])) ::
  (829, (.mk (.type "builtin_function_or_method") .none (.fields #[(.builtin "object.__init_subclass__"), (.ref (825:Nat))]) #[])) ::
  (831, (.mk .none .none (.fields #[]) #[])) ::
  (834, (fnO (s := st 48) rfl .none .none #[] (.ofString "need") (0:Nat) [] .none .none .none .none .none .none .none (0:Nat))) ::
  (838, (.mk .none .none (.fields #[]) #[])) ::
  (841, (fnO (s := st 49) rfl .none .none #[] (.ofString "stack_pop_kind") (0:Nat) [] .none .none .none .none .none .none .none (0:Nat))) ::
  (845, (.mk .none .none (.fields #[]) #[])) ::
  (848, (fnO (s := st 50) rfl .none .none #[] (.ofString "pop_integer") (0:Nat) [] .none .none .none .none .none .none .none (0:Nat))) ::
  (852, (.mk .none .none (.fields #[]) #[])) ::
  (855, (fnO (s := st 52) rfl .none .none #[] (.ofString "op_rand") (0:Nat) [] .none .none .none .none .none .none .none (0:Nat))) ::
  (859, (.mk .none .none (.fields #[]) #[])) ::
  (862, (fnO (s := st 53) rfl .none .none #[] (.ofString "op_srand") (0:Nat) [] .none .none .none .none .none .none .none (0:Nat))) ::
  (866, (.mk .none .none (.fields #[]) #[])) ::
  (869, (fnO (s := st 54) rfl .none .none #[] (.ofString "op_rrand") (0:Nat) [] .none .none .none .none .none .none .none (0:Nat))) ::
  (873, (.mk .none .none (.fields #[]) #[])) ::
  (874, (fnO (s := st 57) rfl .none .none #[] (.ofString "_law_deck") (0:Nat) [] .none .none .none .none .none .none .none (0:Nat))) ::
  (878, (.mk .none .none (.fields #[]) #[])) ::
  (881, (fnO (s := st 58) rfl .none .none #[] (.ofString "_law_draw") (0:Nat) [] .none .none .none .none .none .none .none (0:Nat))) ::
  (885, (.mk .none .none (.fields #[]) #[])) ::
  (888, (fnO (s := st 59) rfl .none .none #[] (.ofString "_law_next") (0:Nat) [] .none .none .none .none .none .none .none (0:Nat))) ::
  (892, (.mk .none .none (.fields #[]) #[])) ::
  (895, (fnO (s := st 60) rfl .none .none #[] (.ofString "_law_seeded") (0:Nat) [] .none .none .none .none .none .none .none (0:Nat))) ::
  (899, (.mk .none .none (.fields #[]) #[])) ::
  (902, (fnO (s := st 61) rfl .none .none #[] (.ofString "_law_far") (0:Nat) [] .none .none .none .none .none .none .none (0:Nat))) ::
  (906, (.mk .none .none (.fields #[]) #[])) ::
  (909, (fnO (s := st 62) rfl .none .none #[] (.ofString "law") (0:Nat) [] .none .none .none .none .none .none .none (0:Nat))) :: []



noncomputable def mergeF : Nat → Nat → Frag → Frag → List Obj
  | 0, _, _, _ => []
  | n + 1, a, k, r => match k with
    | [] => match r with
      | [] => []
      | (_, o) :: r' => o :: mergeF n (a + 1) k r'
    | (b, o) :: k' => match Nat.beq a b with
      | true => o :: mergeF n (a + 1) k' r
      | false => match r with
        | [] => []
        | (_, o') :: r' => o' :: mergeF n (a + 1) k r'
theorem both {α β : Type} {a a' : α} {b b' : β} (x : a = a') (y : b = b') : (a, b) = (a', b') := by rw [x, y]


/-- the merged row holds each object of the first one at its address -/
noncomputable def chk : Nat → Nat → Frag → Frag → Bool
  | 0, _, k, _ => match k with | [] => true | _ :: _ => false
  | n + 1, a, k, r => match k with
    | [] => true
    | (b, o) :: k' => match Nat.beq a b with
      | true => match o with
        | ⟨_, _, .freed, _⟩ => false
        | _ => chk n (a + 1) k' r
      | false => match r with
        | [] => false
        | _ :: r' => chk n (a + 1) k r'
theorem merge_get {L : List Obj} : ∀ (n a : Nat) (k r : Frag), chk n a k r = true → (∀ i, L[a + i]? = (mergeF n a k r)[i]?) → ∀ (life : Life), ∀ p ∈ k, (Heap.mk L.toArray life).get? p.1 = some p.2
  | 0, a, k, r, h, _, _, p, hp => by
    cases k with
    | nil => cases hp
    | cons x y => cases h
  | n + 1, a, [], r, h, _, _, p, hp => by cases hp
  | n + 1, a, (b, o) :: k', r, h, e, life, p, hp => by
    unfold chk at h
    unfold mergeF at e
    dsimp only at h e
    cases q : Nat.beq a b with
    | true =>
      rw [q] at h e
      dsimp only at h e
      have ab := Nat.eq_of_beq_eq_true q
      subst ab
      rcases List.mem_cons.mp hp with rfl | hp
      · have e0 := e 0
        simp only [Nat.add_zero, List.getElem?_cons_zero] at e0
        unfold Heap.get?
        show (match (L.toArray)[a]? with | some ⟨_, _, .freed, _⟩ => none | o => o) = _
        rw [List.getElem?_toArray, e0]
        obtain ⟨c, d, dt, sl⟩ := o
        cases dt <;> first | rfl | cases h
      · refine merge_get n (a + 1) k' r ?_ (fun i => ?_) life p hp
        · obtain ⟨c, d, dt, sl⟩ := o
          cases dt <;> first | exact h | cases h
        · have := e (i + 1)
          rw [show a + (i + 1) = a + 1 + i by omega] at this
          simpa only [List.getElem?_cons_succ] using this
    | false =>
      rw [q] at h e
      dsimp only at h e
      cases r with
      | nil => cases h
      | cons x r' =>
        dsimp only at h e
        refine merge_get n (a + 1) ((b, o) :: k') r' h (fun i => ?_) life p hp
        have := e (i + 1)
        rw [show a + (i + 1) = a + 1 + i by omega] at this
        simpa only [List.getElem?_cons_succ] using this
theorem obs_of {n : Nat} {k r : Frag} {as : List Addr} {life : Life} (e : as = k.map (·.1)) (h : chk n 0 k r = true) :
    as.map (Heap.mk (mergeF n 0 k r).toArray life).get? = k.map fun p => some p.2 := by
  subst e
  rw [List.map_map]
  exact List.map_congr_left fun p hp => merge_get n 0 k r h (fun i => by rw [Nat.zero_add]) life p hp



noncomputable def T (P : Params) : BT := .node (boot_o_0 P) (.node (boot_o_1 P) (.node (boot_o_3 P) (.node (boot_o_7 P) .nil .nil) .nil) (.node (boot_o_5 P) (.node (boot_o_9 P) .nil .nil) .nil)) (.node (boot_o_2 P) (.node (boot_o_4 P) (.node (boot_o_8 P) .nil .nil) .nil) (.node (boot_o_6 P) (.node (boot_o_10 P) .nil .nil) .nil))
noncomputable def H0 (P : Params) : Heap := absHeap (T P) 11 {}
noncomputable def H1 (P : Params) : Heap := ⟨(mergeF 912 0 (K P) (R P)).toArray, {}⟩
theorem t_boot (P : Params) : H0 P = boot_heap P := by kernel_rfl!
def q : Program := view Challenge.pw_on0274_01 [0, 2, 3, 4, 6, 7, 8, 9, 10, 11, 13, 14, 15, 16, 17, 18, 19, 20, 22, 23, 24, 25, 26, 27, 28, 29, 30, 31, 32, 33, 34, 35, 37, 39, 40, 41, 42, 43, 44, 45, 47, 48, 49, 50, 52, 53, 54, 56, 57, 58, 59, 60, 61, 62]
abbrev loose : List Str := [Str.ofString "RANDOM_BASE", Str.ofString "PostError", Str.ofString "Thing", Str.ofString "name", Str.ofString "OctetSource", Str.ofString "SourceFrame", Str.ofString "MachineCore", Str.ofString "Stack"]
abbrev lv : List (Str × WData) := [(Str.ofString "RANDOM_BASE", WData.int 2147483647)]
theorem k_as : ∀ P, kAs = (K P).map (·.1) := fun P => by kernel_rfl!
theorem k_chk (P : Params) : chk 912 0 (K P) (R P) = true := by kernel_rfl!
theorem opens : ∀ w : World, (fencedOpening treeTable Challenge.pw_on0274_01 w 13016).map (fun s => (s.heap, s.gens, s.drawn, s.toks)) = some (H0 w.params, #[], boot_drawn, boot_toks) := fun w => by
  rw [t_boot]
  exact boot_open (p := Challenge.pw_on0274_01) (N := 13016) (by kernel_rfl!) (by decide +kernel) (fun s => by kernel_rfl!) w
theorem sized : ∀ w : World, ((H0 w.params).isNs mainGlobals && (#[] : Array GenState).size == 0, (H0 w.params).objs.size, (H0 w.params).nsMap mainGlobals "__annotations__") = (true, 11, some (.ref 6)) := fun w => by kernel_rfl!
noncomputable abbrev r0 : RowW := OpenRow.toRowW (OpenLaw.row Challenge.rw_on0274_01)
noncomputable abbrev H : Hook := kmHook K kAs k_as [519]
noncomputable abbrev H' : Hook := kHook K kAs k_as
noncomputable abbrev mods : List Str := importedModules Challenge.pw_on0274_01.main.body
noncomputable abbrev Xt (s : Shared) : Bool := xlAt q lv s && recOk (RowW.records r0) s
noncomputable abbrev S1 (w : World) (os : OsState) : Shared := ⟨H1 w.params, #[], {}, 1370, os⟩


theorem sa1 : namesResolve Challenge.rw_on0274_01.row.toRowW.prog = true := by
  rw [Fast.te8377067652309620493]
  decide +kernel
theorem sa2 : noRoadLSs { strict := !(importedModules Challenge.rw_on0274_01.row.toRowW.prog.main.body).all cThrough.contains, foot := none, bare := (["vars", "dir", "locals"] : List Str).filter (readsOut Challenge.rw_on0274_01.row.toRowW.prog Challenge.rw_on0274_01.row.toRowW.prog.main.body) } Challenge.rw_on0274_01.row.toRowW.prog.main.body = true := by
  rw [Fast.te8326940854005059898]
  decide +kernel
theorem sa3 : (namesMeet Challenge.rw_on0274_01.row.toRowW.prog Challenge.rw_on0274_01.row.toRowW.prog.main.body fun _ n => attrL n) = true := by
  rw [Fast.te17119622794617984870]
  decide +kernel
theorem sa4 : looksOpen Challenge.rw_on0274_01.row.toRowW.prog = true := by
  unfold looksOpen
  rw [sa1, sa2, sa3]
  decide +kernel
theorem sa5 : namesMeet Challenge.rw_on0274_01.prog Challenge.rw_on0274_01.above (fun _ n => !Challenge.rw_on0274_01.own.contains n) = true := by
  rw [Fast.te17119622794617984870, Fast.te10792542408131684335]
  decide +kernel
theorem sa6 : Challenge.rw_on0274_01.row.wellSaid = true := by
  unfold OpenRow.wellSaid OpenRow.partSaid
  rw [sa4]
  decide +kernel
theorem said : Challenge.rw_on0274_01.wellSaid = true := by
  unfold OpenLaw.wellSaid
  rw [sa6, sa5]
  rw [Fast.te8326940854005059898, Fast.te17119622794617984870, Fast.te8179353310426384613, Fast.te9558739934217749035, Fast.te16286561074155671207, Fast.te10792542408131684335]
  (try rw [Fast.te6984425678791042302])
  decide +kernel

noncomputable def ovr : Nat → Nat → Frag → List Obj → List Obj
  | 0, _, _, _ => []
  | n + 1, a, k, l => match l with
    | [] => []
    | o :: l' => match k with
      | [] => o :: ovr n (a + 1) [] l'
      | (b, o') :: k' => match Nat.beq a b with
        | true => o' :: ovr n (a + 1) k' l'
        | false => o :: ovr n (a + 1) k l'
noncomputable def odd : List Obj → List Obj
  | a :: _ :: r => a :: odd r
  | [a] => [a]
  | [] => []
noncomputable def even : List Obj → List Obj
  | _ :: b :: r => b :: even r
  | _ => []
noncomputable def btOf : Nat → List Obj → BT
  | 0, _ => .nil
  | n + 1, l => match l with
    | [] => .nil
    | o :: r => .node o (btOf n (odd r)) (btOf n (even r))
noncomputable def ms (n k : Nat) (O : Params → Frag) (w : World) (os : OsState) : SharedT := ⟨btOf 12 (ovr n 0 (O w.params) (mergeF 912 0 (K w.params) (R w.params))), n, {}, #[], {}, k, os⟩
noncomputable def B0 : List Stmt := behindTheImports Challenge.pw_on0274_01
noncomputable def eE : Env := { scope := Challenge.pw_on0274_01.main.scope, locals := mainNs, globals := mainNs, cells := [], code := .ref 13, frame := some 14 }
noncomputable def cE : Code := .body B0 eE
def p0 : Pos := ⟨0, 0, 0, 0⟩
noncomputable def O0 (P : Params) : Frag :=
  (2, (.mk .none .none (.dict #[] (0:Nat)) #[])) ::
  (3, (.mk (.type "dict") .none (.dict #[(.mk (PyData.keyHash P (.ofString "__name__")) (.str (.ofString "__name__") (165:Nat)) (.str (.ofString "__main__") (164:Nat))), (.mk (PyData.keyHash P (.ofString "__doc__")) (.str (.ofString "__doc__") (166:Nat)) .none), (.mk (PyData.keyHash P (.ofString "__package__")) (.str (.ofString "__package__") (167:Nat)) .none), (.mk (PyData.keyHash P (.ofString "__loader__")) (.str (.ofString "__loader__") (168:Nat)) (.builtin "__main__.__loader__#opaque")), (.mk (PyData.keyHash P (.ofString "__spec__")) (.str (.ofString "__spec__") (169:Nat)) .none), (.mk (PyData.keyHash P (.ofString "__annotations__")) (.str (.ofString "__annotations__") (170:Nat)) (.ref (6:Nat))), (.mk (PyData.keyHash P (.ofString "__builtins__")) (.str (.ofString "__builtins__") (171:Nat)) (.ref (4:Nat))), (.mk (PyData.keyHash P (.ofString "__file__")) (.str (.ofString "__file__") (173:Nat)) (.str (.ofString "/claim/cut.py") (172:Nat))), (.mk (PyData.keyHash P (.ofString "__cached__")) (.str (.ofString "__cached__") (174:Nat)) .none)] (9:Nat)) #[])) ::
  (12, (.mk .none .none (.fields #[]) #[])) :: []
noncomputable def O1 (P : Params) : Frag :=
  (3, (.mk (.type "dict") .none (.dict #[(.mk (PyData.keyHash P (.ofString "__name__")) (.str (.ofString "__name__") (165:Nat)) (.str (.ofString "postcore.objects") (336:Nat))), (.mk (PyData.keyHash P (.ofString "__doc__")) (.str (.ofString "__doc__") (166:Nat)) .none), (.mk (PyData.keyHash P (.ofString "__package__")) (.str (.ofString "__package__") (167:Nat)) .none), (.mk (PyData.keyHash P (.ofString "__loader__")) (.str (.ofString "__loader__") (168:Nat)) (.builtin "__main__.__loader__#opaque")), (.mk (PyData.keyHash P (.ofString "__spec__")) (.str (.ofString "__spec__") (169:Nat)) .none), (.mk (PyData.keyHash P (.ofString "__annotations__")) (.str (.ofString "__annotations__") (170:Nat)) (.ref (6:Nat))), (.mk (PyData.keyHash P (.ofString "__builtins__")) (.str (.ofString "__builtins__") (171:Nat)) (.ref (4:Nat))), (.mk (PyData.keyHash P (.ofString "__file__")) (.str (.ofString "__file__") (173:Nat)) (.str (.ofString "/claim/cut.py") (172:Nat))), (.mk (PyData.keyHash P (.ofString "__cached__")) (.str (.ofString "__cached__") (174:Nat)) .none), (.mk (PyData.keyHash P (.ofString "_wall")) (.str (.ofString "_wall") (193:Nat)) (.ref (21:Nat))), (.mk (PyData.keyHash P (.ofString "RANDOM_FACTOR")) (.str (.ofString "RANDOM_FACTOR") (197:Nat)) (.int 16807 (196:Nat))), (.mk (PyData.keyHash P (.ofString "RANDOM_BASE")) (.str (.ofString "RANDOM_BASE") (203:Nat)) (.int 2147483647 (202:Nat))), (.mk (PyData.keyHash P (.ofString "Randoms")) (.str (.ofString "Randoms") (248:Nat)) (.ref (53:Nat))), (.mk (PyData.keyHash P (.ofString "GRAIN")) (.str (.ofString "GRAIN") (252:Nat)) (.int 1000000 (251:Nat))), (.mk (PyData.keyHash P (.ofString "PostError")) (.str (.ofString "PostError") (281:Nat)) (.ref (75:Nat))), (.mk (PyData.keyHash P (.ofString "PsError")) (.str (.ofString "PsError") (297:Nat)) (.ref (88:Nat))), (.mk (PyData.keyHash P (.ofString "Quit")) (.str (.ofString "Quit") (313:Nat)) (.ref (100:Nat))), (.mk (PyData.keyHash P (.ofString "BadText")) (.str (.ofString "BadText") (329:Nat)) (.ref (112:Nat))), (.mk (PyData.keyHash P (.ofString "octets_of")) (.str (.ofString "octets_of") (335:Nat)) (.ref (119:Nat))), (.mk (PyData.keyHash P (.ofString "RUN_ONLY")) (.str (.ofString "RUN_ONLY") (339:Nat)) (.int 1 (338:Nat))), (.mk (PyData.keyHash P (.ofString "READ_ONLY")) (.str (.ofString "READ_ONLY") (341:Nat)) (.int 2 (340:Nat))), (.mk (PyData.keyHash P (.ofString "UNLIMITED")) (.str (.ofString "UNLIMITED") (343:Nat)) (.int 3 (342:Nat))), (.mk (PyData.keyHash P (.ofString "Thing")) (.str (.ofString "Thing") (378:Nat)) (.ref (137:Nat)))] (23:Nat)) #[])) ::
  (12, (.mk .none .none (.fields #[(.int 1 (0:Nat)), (.int 0 (0:Nat)), (.ref (20:Nat)), (.int 7 (0:Nat)), (.int 0 (0:Nat)), (.ref (27:Nat)), (.int 23 (0:Nat)), (.int 0 (0:Nat)), (.ref (63:Nat)), (.int 27 (0:Nat)), (.int 0 (0:Nat)), (.ref (84:Nat)), (.int 29 (0:Nat)), (.int 0 (0:Nat)), (.ref (96:Nat)), (.int 31 (0:Nat)), (.int 0 (0:Nat)), (.ref (108:Nat)), (.int 33 (0:Nat)), (.int 0 (0:Nat)), (.ref (118:Nat)), (.int 43 (0:Nat)), (.int 0 (0:Nat)), (.ref (125:Nat))]) #[])) :: []
noncomputable def O2 (P : Params) : Frag :=
  (3, (.mk (.type "dict") .none (.dict #[(.mk (PyData.keyHash P (.ofString "__name__")) (.str (.ofString "__name__") (165:Nat)) (.str (.ofString "postcore.scanner") (573:Nat))), (.mk (PyData.keyHash P (.ofString "__doc__")) (.str (.ofString "__doc__") (166:Nat)) .none), (.mk (PyData.keyHash P (.ofString "__package__")) (.str (.ofString "__package__") (167:Nat)) .none), (.mk (PyData.keyHash P (.ofString "__loader__")) (.str (.ofString "__loader__") (168:Nat)) (.builtin "__main__.__loader__#opaque")), (.mk (PyData.keyHash P (.ofString "__spec__")) (.str (.ofString "__spec__") (169:Nat)) .none), (.mk (PyData.keyHash P (.ofString "__annotations__")) (.str (.ofString "__annotations__") (170:Nat)) (.ref (6:Nat))), (.mk (PyData.keyHash P (.ofString "__builtins__")) (.str (.ofString "__builtins__") (171:Nat)) (.ref (4:Nat))), (.mk (PyData.keyHash P (.ofString "__file__")) (.str (.ofString "__file__") (173:Nat)) (.str (.ofString "/claim/cut.py") (172:Nat))), (.mk (PyData.keyHash P (.ofString "__cached__")) (.str (.ofString "__cached__") (174:Nat)) .none), (.mk (PyData.keyHash P (.ofString "_wall")) (.str (.ofString "_wall") (193:Nat)) (.ref (21:Nat))), (.mk (PyData.keyHash P (.ofString "RANDOM_FACTOR")) (.str (.ofString "RANDOM_FACTOR") (197:Nat)) (.int 16807 (196:Nat))), (.mk (PyData.keyHash P (.ofString "RANDOM_BASE")) (.str (.ofString "RANDOM_BASE") (203:Nat)) (.int 2147483647 (202:Nat))), (.mk (PyData.keyHash P (.ofString "Randoms")) (.str (.ofString "Randoms") (248:Nat)) (.ref (53:Nat))), (.mk (PyData.keyHash P (.ofString "GRAIN")) (.str (.ofString "GRAIN") (252:Nat)) (.int 1000000 (251:Nat))), (.mk (PyData.keyHash P (.ofString "PostError")) (.str (.ofString "PostError") (281:Nat)) (.ref (75:Nat))), (.mk (PyData.keyHash P (.ofString "PsError")) (.str (.ofString "PsError") (297:Nat)) (.ref (88:Nat))), (.mk (PyData.keyHash P (.ofString "Quit")) (.str (.ofString "Quit") (313:Nat)) (.ref (100:Nat))), (.mk (PyData.keyHash P (.ofString "BadText")) (.str (.ofString "BadText") (329:Nat)) (.ref (112:Nat))), (.mk (PyData.keyHash P (.ofString "octets_of")) (.str (.ofString "octets_of") (335:Nat)) (.ref (119:Nat))), (.mk (PyData.keyHash P (.ofString "RUN_ONLY")) (.str (.ofString "RUN_ONLY") (339:Nat)) (.int 1 (338:Nat))), (.mk (PyData.keyHash P (.ofString "READ_ONLY")) (.str (.ofString "READ_ONLY") (341:Nat)) (.int 2 (340:Nat))), (.mk (PyData.keyHash P (.ofString "UNLIMITED")) (.str (.ofString "UNLIMITED") (343:Nat)) (.int 3 (342:Nat))), (.mk (PyData.keyHash P (.ofString "Thing")) (.str (.ofString "Thing") (378:Nat)) (.ref (137:Nat))), (.mk (PyData.keyHash P (.ofString "Text")) (.str (.ofString "Text") (413:Nat)) (.ref (158:Nat))), (.mk (PyData.keyHash P (.ofString "Span")) (.str (.ofString "Span") (446:Nat)) (.ref (179:Nat))), (.mk (PyData.keyHash P (.ofString "integer")) (.str (.ofString "integer") (453:Nat)) (.ref (190:Nat))), (.mk (PyData.keyHash P (.ofString "boolean")) (.str (.ofString "boolean") (460:Nat)) (.ref (197:Nat))), (.mk (PyData.keyHash P (.ofString "name")) (.str (.ofString "name") (468:Nat)) (.ref (205:Nat))), (.mk (PyData.keyHash P (.ofString "is_number")) (.str (.ofString "is_number") (475:Nat)) (.ref (212:Nat))), (.mk (PyData.keyHash P (.ofString "in_millionths")) (.str (.ofString "in_millionths") (482:Nat)) (.ref (219:Nat))), (.mk (PyData.keyHash P (.ofString "is_in_array")) (.str (.ofString "is_in_array") (489:Nat)) (.ref (226:Nat))), (.mk (PyData.keyHash P (.ofString "access_of")) (.str (.ofString "access_of") (496:Nat)) (.ref (233:Nat))), (.mk (PyData.keyHash P (.ofString "can_read")) (.str (.ofString "can_read") (503:Nat)) (.ref (240:Nat))), (.mk (PyData.keyHash P (.ofString "can_run")) (.str (.ofString "can_run") (510:Nat)) (.ref (247:Nat))), (.mk (PyData.keyHash P (.ofString "check_part")) (.str (.ofString "check_part") (519:Nat)) (.ref (254:Nat))), (.mk (PyData.keyHash P (.ofString "part_of")) (.str (.ofString "part_of") (528:Nat)) (.ref (261:Nat))), (.mk (PyData.keyHash P (.ofString "with_span")) (.str (.ofString "with_span") (536:Nat)) (.ref (268:Nat))), (.mk (PyData.keyHash P (.ofString "is_text_span")) (.str (.ofString "is_text_span") (543:Nat)) (.ref (275:Nat))), (.mk (PyData.keyHash P (.ofString "item")) (.str (.ofString "item") (551:Nat)) (.ref (282:Nat))), (.mk (PyData.keyHash P (.ofString "octets_of_span")) (.str (.ofString "octets_of_span") (558:Nat)) (.ref (289:Nat))), (.mk (PyData.keyHash P (.ofString "thing_octets")) (.str (.ofString "thing_octets") (565:Nat)) (.ref (296:Nat))), (.mk (PyData.keyHash P (.ofString "key_of")) (.str (.ofString "key_of") (572:Nat)) (.ref (303:Nat))), (.mk (PyData.keyHash P (.ofString "OctetSource")) (.str (.ofString "OctetSource") (628:Nat)) (.ref (343:Nat)))] (43:Nat)) #[])) ::
  (12, (.mk .none .none (.fields (List.toArray ((.int 1 (0:Nat)) :: (.int 0 (0:Nat)) :: (.ref (20:Nat)) :: (.int 7 (0:Nat)) :: (.int 0 (0:Nat)) :: (.ref (27:Nat)) :: (.int 23 (0:Nat)) :: (.int 0 (0:Nat)) :: (.ref (63:Nat)) :: (.int 27 (0:Nat)) :: (.int 0 (0:Nat)) :: (.ref (84:Nat)) :: (.int 29 (0:Nat)) :: (.int 0 (0:Nat)) :: (.ref (96:Nat)) :: (.int 31 (0:Nat)) :: (.int 0 (0:Nat)) :: (.ref (108:Nat)) :: (.int 33 (0:Nat)) :: (.int 0 (0:Nat)) :: (.ref (118:Nat)) :: (.int 43 (0:Nat)) :: (.int 0 (0:Nat)) :: (.ref (125:Nat)) :: (.int 50 (0:Nat)) :: (.int 0 (0:Nat)) :: (.ref (147:Nat)) :: (.int 57 (0:Nat)) :: (.int 0 (0:Nat)) :: (.ref (168:Nat)) :: (.int 63 (0:Nat)) :: (.int 0 (0:Nat)) :: (.ref (189:Nat)) :: (.int 65 (0:Nat)) :: (.int 0 (0:Nat)) :: (.ref (196:Nat)) :: (.int 67 (0:Nat)) :: (.int 0 (0:Nat)) :: (.ref (204:Nat)) :: (.int 69 (0:Nat)) :: (.int 0 (0:Nat)) :: (.ref (211:Nat)) :: (.int 71 (0:Nat)) :: (.int 0 (0:Nat)) :: (.ref (218:Nat)) :: (.int 77 (0:Nat)) :: (.int 0 (0:Nat)) :: (.ref (225:Nat)) :: (.int 79 (0:Nat)) :: (.int 0 (0:Nat)) :: (.ref (232:Nat)) :: (.int 81 (0:Nat)) :: (.int 0 (0:Nat)) :: (.ref (239:Nat)) :: (.int 83 (0:Nat)) :: (.int 0 (0:Nat)) :: (.ref (246:Nat)) :: (.int 85 (0:Nat)) :: (.int 0 (0:Nat)) :: (.ref (253:Nat)) :: (.int 88 (0:Nat)) :: (.int 0 (0:Nat)) :: (.ref (260:Nat)) :: (.int 91 (0:Nat)) :: (.int 0 (0:Nat)) :: (.ref (267:Nat)) :: (.int 93 (0:Nat)) :: (.int 0 (0:Nat)) :: (.ref (274:Nat)) :: (.int 95 (0:Nat)) :: (.int 0 (0:Nat)) :: (.ref (281:Nat)) :: (.int 100 (0:Nat)) :: (.int 0 (0:Nat)) :: (.ref (288:Nat)) :: (.int 102 (0:Nat)) :: (.int 0 (0:Nat)) :: (.ref (295:Nat)) :: (.int 110 (0:Nat)) :: (.int 0 (0:Nat)) :: (.ref (302:Nat)) :: (.int 125 (0:Nat)) :: (.int 0 (0:Nat)) :: (.ref (309:Nat)) :: []))) #[])) :: []
noncomputable def O3 (P : Params) : Frag :=
  (3, (.mk (.type "dict") .none (.dict #[(.mk (PyData.keyHash P (.ofString "__name__")) (.str (.ofString "__name__") (165:Nat)) (.str (.ofString "postcore.machine") (629:Nat))), (.mk (PyData.keyHash P (.ofString "__doc__")) (.str (.ofString "__doc__") (166:Nat)) .none), (.mk (PyData.keyHash P (.ofString "__package__")) (.str (.ofString "__package__") (167:Nat)) .none), (.mk (PyData.keyHash P (.ofString "__loader__")) (.str (.ofString "__loader__") (168:Nat)) (.builtin "__main__.__loader__#opaque")), (.mk (PyData.keyHash P (.ofString "__spec__")) (.str (.ofString "__spec__") (169:Nat)) .none), (.mk (PyData.keyHash P (.ofString "__annotations__")) (.str (.ofString "__annotations__") (170:Nat)) (.ref (6:Nat))), (.mk (PyData.keyHash P (.ofString "__builtins__")) (.str (.ofString "__builtins__") (171:Nat)) (.ref (4:Nat))), (.mk (PyData.keyHash P (.ofString "__file__")) (.str (.ofString "__file__") (173:Nat)) (.str (.ofString "/claim/cut.py") (172:Nat))), (.mk (PyData.keyHash P (.ofString "__cached__")) (.str (.ofString "__cached__") (174:Nat)) .none), (.mk (PyData.keyHash P (.ofString "_wall")) (.str (.ofString "_wall") (193:Nat)) (.ref (21:Nat))), (.mk (PyData.keyHash P (.ofString "RANDOM_FACTOR")) (.str (.ofString "RANDOM_FACTOR") (197:Nat)) (.int 16807 (196:Nat))), (.mk (PyData.keyHash P (.ofString "RANDOM_BASE")) (.str (.ofString "RANDOM_BASE") (203:Nat)) (.int 2147483647 (202:Nat))), (.mk (PyData.keyHash P (.ofString "Randoms")) (.str (.ofString "Randoms") (248:Nat)) (.ref (53:Nat))), (.mk (PyData.keyHash P (.ofString "GRAIN")) (.str (.ofString "GRAIN") (252:Nat)) (.int 1000000 (251:Nat))), (.mk (PyData.keyHash P (.ofString "PostError")) (.str (.ofString "PostError") (281:Nat)) (.ref (75:Nat))), (.mk (PyData.keyHash P (.ofString "PsError")) (.str (.ofString "PsError") (297:Nat)) (.ref (88:Nat))), (.mk (PyData.keyHash P (.ofString "Quit")) (.str (.ofString "Quit") (313:Nat)) (.ref (100:Nat))), (.mk (PyData.keyHash P (.ofString "BadText")) (.str (.ofString "BadText") (329:Nat)) (.ref (112:Nat))), (.mk (PyData.keyHash P (.ofString "octets_of")) (.str (.ofString "octets_of") (335:Nat)) (.ref (119:Nat))), (.mk (PyData.keyHash P (.ofString "RUN_ONLY")) (.str (.ofString "RUN_ONLY") (339:Nat)) (.int 1 (338:Nat))), (.mk (PyData.keyHash P (.ofString "READ_ONLY")) (.str (.ofString "READ_ONLY") (341:Nat)) (.int 2 (340:Nat))), (.mk (PyData.keyHash P (.ofString "UNLIMITED")) (.str (.ofString "UNLIMITED") (343:Nat)) (.int 3 (342:Nat))), (.mk (PyData.keyHash P (.ofString "Thing")) (.str (.ofString "Thing") (378:Nat)) (.ref (137:Nat))), (.mk (PyData.keyHash P (.ofString "Text")) (.str (.ofString "Text") (413:Nat)) (.ref (158:Nat))), (.mk (PyData.keyHash P (.ofString "Span")) (.str (.ofString "Span") (446:Nat)) (.ref (179:Nat))), (.mk (PyData.keyHash P (.ofString "integer")) (.str (.ofString "integer") (453:Nat)) (.ref (190:Nat))), (.mk (PyData.keyHash P (.ofString "boolean")) (.str (.ofString "boolean") (460:Nat)) (.ref (197:Nat))), (.mk (PyData.keyHash P (.ofString "name")) (.str (.ofString "name") (468:Nat)) (.ref (205:Nat))), (.mk (PyData.keyHash P (.ofString "is_number")) (.str (.ofString "is_number") (475:Nat)) (.ref (212:Nat))), (.mk (PyData.keyHash P (.ofString "in_millionths")) (.str (.ofString "in_millionths") (482:Nat)) (.ref (219:Nat))), (.mk (PyData.keyHash P (.ofString "is_in_array")) (.str (.ofString "is_in_array") (489:Nat)) (.ref (226:Nat))), (.mk (PyData.keyHash P (.ofString "access_of")) (.str (.ofString "access_of") (496:Nat)) (.ref (233:Nat))), (.mk (PyData.keyHash P (.ofString "can_read")) (.str (.ofString "can_read") (503:Nat)) (.ref (240:Nat))), (.mk (PyData.keyHash P (.ofString "can_run")) (.str (.ofString "can_run") (510:Nat)) (.ref (247:Nat))), (.mk (PyData.keyHash P (.ofString "check_part")) (.str (.ofString "check_part") (519:Nat)) (.ref (254:Nat))), (.mk (PyData.keyHash P (.ofString "part_of")) (.str (.ofString "part_of") (528:Nat)) (.ref (261:Nat))), (.mk (PyData.keyHash P (.ofString "with_span")) (.str (.ofString "with_span") (536:Nat)) (.ref (268:Nat))), (.mk (PyData.keyHash P (.ofString "is_text_span")) (.str (.ofString "is_text_span") (543:Nat)) (.ref (275:Nat))), (.mk (PyData.keyHash P (.ofString "item")) (.str (.ofString "item") (551:Nat)) (.ref (282:Nat))), (.mk (PyData.keyHash P (.ofString "octets_of_span")) (.str (.ofString "octets_of_span") (558:Nat)) (.ref (289:Nat))), (.mk (PyData.keyHash P (.ofString "thing_octets")) (.str (.ofString "thing_octets") (565:Nat)) (.ref (296:Nat))), (.mk (PyData.keyHash P (.ofString "key_of")) (.str (.ofString "key_of") (572:Nat)) (.ref (303:Nat))), (.mk (PyData.keyHash P (.ofString "OctetSource")) (.str (.ofString "OctetSource") (628:Nat)) (.ref (343:Nat))), (.mk (PyData.keyHash P (.ofString "FIRST_SEED")) (.str (.ofString "FIRST_SEED") (632:Nat)) (.int 1 (631:Nat))), (.mk (PyData.keyHash P (.ofString "Frame")) (.str (.ofString "Frame") (691:Nat)) (.ref (392:Nat))), (.mk (PyData.keyHash P (.ofString "ProcFrame")) (.str (.ofString "ProcFrame") (743:Nat)) (.ref (434:Nat))), (.mk (PyData.keyHash P (.ofString "SourceFrame")) (.str (.ofString "SourceFrame") (794:Nat)) (.ref (475:Nat)))] (47:Nat)) #[])) ::
  (12, (.mk .none .none (.fields (List.toArray ((.int 1 (0:Nat)) :: (.int 0 (0:Nat)) :: (.ref (20:Nat)) :: (.int 7 (0:Nat)) :: (.int 0 (0:Nat)) :: (.ref (27:Nat)) :: (.int 23 (0:Nat)) :: (.int 0 (0:Nat)) :: (.ref (63:Nat)) :: (.int 27 (0:Nat)) :: (.int 0 (0:Nat)) :: (.ref (84:Nat)) :: (.int 29 (0:Nat)) :: (.int 0 (0:Nat)) :: (.ref (96:Nat)) :: (.int 31 (0:Nat)) :: (.int 0 (0:Nat)) :: (.ref (108:Nat)) :: (.int 33 (0:Nat)) :: (.int 0 (0:Nat)) :: (.ref (118:Nat)) :: (.int 43 (0:Nat)) :: (.int 0 (0:Nat)) :: (.ref (125:Nat)) :: (.int 50 (0:Nat)) :: (.int 0 (0:Nat)) :: (.ref (147:Nat)) :: (.int 57 (0:Nat)) :: (.int 0 (0:Nat)) :: (.ref (168:Nat)) :: (.int 63 (0:Nat)) :: (.int 0 (0:Nat)) :: (.ref (189:Nat)) :: (.int 65 (0:Nat)) :: (.int 0 (0:Nat)) :: (.ref (196:Nat)) :: (.int 67 (0:Nat)) :: (.int 0 (0:Nat)) :: (.ref (204:Nat)) :: (.int 69 (0:Nat)) :: (.int 0 (0:Nat)) :: (.ref (211:Nat)) :: (.int 71 (0:Nat)) :: (.int 0 (0:Nat)) :: (.ref (218:Nat)) :: (.int 77 (0:Nat)) :: (.int 0 (0:Nat)) :: (.ref (225:Nat)) :: (.int 79 (0:Nat)) :: (.int 0 (0:Nat)) :: (.ref (232:Nat)) :: (.int 81 (0:Nat)) :: (.int 0 (0:Nat)) :: (.ref (239:Nat)) :: (.int 83 (0:Nat)) :: (.int 0 (0:Nat)) :: (.ref (246:Nat)) :: (.int 85 (0:Nat)) :: (.int 0 (0:Nat)) :: (.ref (253:Nat)) :: (.int 88 (0:Nat)) :: (.int 0 (0:Nat)) :: (.ref (260:Nat)) :: (.int 91 (0:Nat)) :: (.int 0 (0:Nat)) :: (.ref (267:Nat)) :: (.int 93 (0:Nat)) :: (.int 0 (0:Nat)) :: (.ref (274:Nat)) :: (.int 95 (0:Nat)) :: (.int 0 (0:Nat)) :: (.ref (281:Nat)) :: (.int 100 (0:Nat)) :: (.int 0 (0:Nat)) :: (.ref (288:Nat)) :: (.int 102 (0:Nat)) :: (.int 0 (0:Nat)) :: (.ref (295:Nat)) :: (.int 110 (0:Nat)) :: (.int 0 (0:Nat)) :: (.ref (302:Nat)) :: (.int 125 (0:Nat)) :: (.int 0 (0:Nat)) :: (.ref (309:Nat)) :: (.int 145 (0:Nat)) :: (.int 0 (0:Nat)) :: (.ref (353:Nat)) :: (.int 161 (0:Nat)) :: (.int 0 (0:Nat)) :: (.ref (402:Nat)) :: (.int 182 (0:Nat)) :: (.int 0 (0:Nat)) :: (.ref (442:Nat)) :: []))) #[])) ::
  (392, (.mk (.type "type") .none (.cls (.mk (.ofString "Frame") [(.type "object")] [(.ref (392:Nat)), (.type "object")] (391:Nat) (.ofString "Frame") .true [] [(.ref (434:Nat)), (.ref (475:Nat))] .false .none .false)) #[.none, .none, (.some (.str (.ofString "Frame") (633:Nat))), (.some (.str (.ofString "Frame") (641:Nat))), (.some (.builtin "object.__new__")), (.some (.bool .true))])) :: []
noncomputable def O4 (P : Params) : Frag :=
  (3, (.mk (.type "dict") .none (.dict #[(.mk (PyData.keyHash P (.ofString "__name__")) (.str (.ofString "__name__") (165:Nat)) (.str (.ofString "postcore.machine") (629:Nat))), (.mk (PyData.keyHash P (.ofString "__doc__")) (.str (.ofString "__doc__") (166:Nat)) .none), (.mk (PyData.keyHash P (.ofString "__package__")) (.str (.ofString "__package__") (167:Nat)) .none), (.mk (PyData.keyHash P (.ofString "__loader__")) (.str (.ofString "__loader__") (168:Nat)) (.builtin "__main__.__loader__#opaque")), (.mk (PyData.keyHash P (.ofString "__spec__")) (.str (.ofString "__spec__") (169:Nat)) .none), (.mk (PyData.keyHash P (.ofString "__annotations__")) (.str (.ofString "__annotations__") (170:Nat)) (.ref (6:Nat))), (.mk (PyData.keyHash P (.ofString "__builtins__")) (.str (.ofString "__builtins__") (171:Nat)) (.ref (4:Nat))), (.mk (PyData.keyHash P (.ofString "__file__")) (.str (.ofString "__file__") (173:Nat)) (.str (.ofString "/claim/cut.py") (172:Nat))), (.mk (PyData.keyHash P (.ofString "__cached__")) (.str (.ofString "__cached__") (174:Nat)) .none), (.mk (PyData.keyHash P (.ofString "_wall")) (.str (.ofString "_wall") (193:Nat)) (.ref (21:Nat))), (.mk (PyData.keyHash P (.ofString "RANDOM_FACTOR")) (.str (.ofString "RANDOM_FACTOR") (197:Nat)) (.int 16807 (196:Nat))), (.mk (PyData.keyHash P (.ofString "RANDOM_BASE")) (.str (.ofString "RANDOM_BASE") (203:Nat)) (.int 2147483647 (202:Nat))), (.mk (PyData.keyHash P (.ofString "Randoms")) (.str (.ofString "Randoms") (248:Nat)) (.ref (53:Nat))), (.mk (PyData.keyHash P (.ofString "GRAIN")) (.str (.ofString "GRAIN") (252:Nat)) (.int 1000000 (251:Nat))), (.mk (PyData.keyHash P (.ofString "PostError")) (.str (.ofString "PostError") (281:Nat)) (.ref (75:Nat))), (.mk (PyData.keyHash P (.ofString "PsError")) (.str (.ofString "PsError") (297:Nat)) (.ref (88:Nat))), (.mk (PyData.keyHash P (.ofString "Quit")) (.str (.ofString "Quit") (313:Nat)) (.ref (100:Nat))), (.mk (PyData.keyHash P (.ofString "BadText")) (.str (.ofString "BadText") (329:Nat)) (.ref (112:Nat))), (.mk (PyData.keyHash P (.ofString "octets_of")) (.str (.ofString "octets_of") (335:Nat)) (.ref (119:Nat))), (.mk (PyData.keyHash P (.ofString "RUN_ONLY")) (.str (.ofString "RUN_ONLY") (339:Nat)) (.int 1 (338:Nat))), (.mk (PyData.keyHash P (.ofString "READ_ONLY")) (.str (.ofString "READ_ONLY") (341:Nat)) (.int 2 (340:Nat))), (.mk (PyData.keyHash P (.ofString "UNLIMITED")) (.str (.ofString "UNLIMITED") (343:Nat)) (.int 3 (342:Nat))), (.mk (PyData.keyHash P (.ofString "Thing")) (.str (.ofString "Thing") (378:Nat)) (.ref (137:Nat))), (.mk (PyData.keyHash P (.ofString "Text")) (.str (.ofString "Text") (413:Nat)) (.ref (158:Nat))), (.mk (PyData.keyHash P (.ofString "Span")) (.str (.ofString "Span") (446:Nat)) (.ref (179:Nat))), (.mk (PyData.keyHash P (.ofString "integer")) (.str (.ofString "integer") (453:Nat)) (.ref (190:Nat))), (.mk (PyData.keyHash P (.ofString "boolean")) (.str (.ofString "boolean") (460:Nat)) (.ref (197:Nat))), (.mk (PyData.keyHash P (.ofString "name")) (.str (.ofString "name") (468:Nat)) (.ref (205:Nat))), (.mk (PyData.keyHash P (.ofString "is_number")) (.str (.ofString "is_number") (475:Nat)) (.ref (212:Nat))), (.mk (PyData.keyHash P (.ofString "in_millionths")) (.str (.ofString "in_millionths") (482:Nat)) (.ref (219:Nat))), (.mk (PyData.keyHash P (.ofString "is_in_array")) (.str (.ofString "is_in_array") (489:Nat)) (.ref (226:Nat))), (.mk (PyData.keyHash P (.ofString "access_of")) (.str (.ofString "access_of") (496:Nat)) (.ref (233:Nat))), (.mk (PyData.keyHash P (.ofString "can_read")) (.str (.ofString "can_read") (503:Nat)) (.ref (240:Nat))), (.mk (PyData.keyHash P (.ofString "can_run")) (.str (.ofString "can_run") (510:Nat)) (.ref (247:Nat))), (.mk (PyData.keyHash P (.ofString "check_part")) (.str (.ofString "check_part") (519:Nat)) (.ref (254:Nat))), (.mk (PyData.keyHash P (.ofString "part_of")) (.str (.ofString "part_of") (528:Nat)) (.ref (261:Nat))), (.mk (PyData.keyHash P (.ofString "with_span")) (.str (.ofString "with_span") (536:Nat)) (.ref (268:Nat))), (.mk (PyData.keyHash P (.ofString "is_text_span")) (.str (.ofString "is_text_span") (543:Nat)) (.ref (275:Nat))), (.mk (PyData.keyHash P (.ofString "item")) (.str (.ofString "item") (551:Nat)) (.ref (282:Nat))), (.mk (PyData.keyHash P (.ofString "octets_of_span")) (.str (.ofString "octets_of_span") (558:Nat)) (.ref (289:Nat))), (.mk (PyData.keyHash P (.ofString "thing_octets")) (.str (.ofString "thing_octets") (565:Nat)) (.ref (296:Nat))), (.mk (PyData.keyHash P (.ofString "key_of")) (.str (.ofString "key_of") (572:Nat)) (.ref (303:Nat))), (.mk (PyData.keyHash P (.ofString "OctetSource")) (.str (.ofString "OctetSource") (628:Nat)) (.ref (343:Nat))), (.mk (PyData.keyHash P (.ofString "FIRST_SEED")) (.str (.ofString "FIRST_SEED") (632:Nat)) (.int 1 (631:Nat))), (.mk (PyData.keyHash P (.ofString "Frame")) (.str (.ofString "Frame") (691:Nat)) (.ref (392:Nat))), (.mk (PyData.keyHash P (.ofString "ProcFrame")) (.str (.ofString "ProcFrame") (743:Nat)) (.ref (434:Nat))), (.mk (PyData.keyHash P (.ofString "SourceFrame")) (.str (.ofString "SourceFrame") (794:Nat)) (.ref (475:Nat))), (.mk (PyData.keyHash P (.ofString "ThingFrame")) (.str (.ofString "ThingFrame") (842:Nat)) (.ref (515:Nat))), (.mk (PyData.keyHash P (.ofString "machine_lookup")) (.str (.ofString "machine_lookup") (851:Nat)) (.ref (524:Nat))), (.mk (PyData.keyHash P (.ofString "MachineCore")) (.str (.ofString "MachineCore") (1132:Nat)) (.ref (719:Nat)))] (50:Nat)) #[])) ::
  (12, (.mk .none .none (.fields (List.toArray ((.int 1 (0:Nat)) :: (.int 0 (0:Nat)) :: (.ref (20:Nat)) :: (.int 7 (0:Nat)) :: (.int 0 (0:Nat)) :: (.ref (27:Nat)) :: (.int 23 (0:Nat)) :: (.int 0 (0:Nat)) :: (.ref (63:Nat)) :: (.int 27 (0:Nat)) :: (.int 0 (0:Nat)) :: (.ref (84:Nat)) :: (.int 29 (0:Nat)) :: (.int 0 (0:Nat)) :: (.ref (96:Nat)) :: (.int 31 (0:Nat)) :: (.int 0 (0:Nat)) :: (.ref (108:Nat)) :: (.int 33 (0:Nat)) :: (.int 0 (0:Nat)) :: (.ref (118:Nat)) :: (.int 43 (0:Nat)) :: (.int 0 (0:Nat)) :: (.ref (125:Nat)) :: (.int 50 (0:Nat)) :: (.int 0 (0:Nat)) :: (.ref (147:Nat)) :: (.int 57 (0:Nat)) :: (.int 0 (0:Nat)) :: (.ref (168:Nat)) :: (.int 63 (0:Nat)) :: (.int 0 (0:Nat)) :: (.ref (189:Nat)) :: (.int 65 (0:Nat)) :: (.int 0 (0:Nat)) :: (.ref (196:Nat)) :: (.int 67 (0:Nat)) :: (.int 0 (0:Nat)) :: (.ref (204:Nat)) :: (.int 69 (0:Nat)) :: (.int 0 (0:Nat)) :: (.ref (211:Nat)) :: (.int 71 (0:Nat)) :: (.int 0 (0:Nat)) :: (.ref (218:Nat)) :: (.int 77 (0:Nat)) :: (.int 0 (0:Nat)) :: (.ref (225:Nat)) :: (.int 79 (0:Nat)) :: (.int 0 (0:Nat)) :: (.ref (232:Nat)) :: (.int 81 (0:Nat)) :: (.int 0 (0:Nat)) :: (.ref (239:Nat)) :: (.int 83 (0:Nat)) :: (.int 0 (0:Nat)) :: (.ref (246:Nat)) :: (.int 85 (0:Nat)) :: (.int 0 (0:Nat)) :: (.ref (253:Nat)) :: (.int 88 (0:Nat)) :: (.int 0 (0:Nat)) :: (.ref (260:Nat)) :: (.int 91 (0:Nat)) :: (.int 0 (0:Nat)) :: (.ref (267:Nat)) :: (.int 93 (0:Nat)) :: (.int 0 (0:Nat)) :: (.ref (274:Nat)) :: (.int 95 (0:Nat)) :: (.int 0 (0:Nat)) :: (.ref (281:Nat)) :: (.int 100 (0:Nat)) :: (.int 0 (0:Nat)) :: (.ref (288:Nat)) :: (.int 102 (0:Nat)) :: (.int 0 (0:Nat)) :: (.ref (295:Nat)) :: (.int 110 (0:Nat)) :: (.int 0 (0:Nat)) :: (.ref (302:Nat)) :: (.int 125 (0:Nat)) :: (.int 0 (0:Nat)) :: (.ref (309:Nat)) :: (.int 145 (0:Nat)) :: (.int 0 (0:Nat)) :: (.ref (353:Nat)) :: (.int 161 (0:Nat)) :: (.int 0 (0:Nat)) :: (.ref (402:Nat)) :: (.int 182 (0:Nat)) :: (.int 0 (0:Nat)) :: (.ref (442:Nat)) :: (.int 203 (0:Nat)) :: (.int 0 (0:Nat)) :: (.ref (483:Nat)) :: (.int 218 (0:Nat)) :: (.int 0 (0:Nat)) :: (.ref (523:Nat)) :: (.int 223 (0:Nat)) :: (.int 0 (0:Nat)) :: (.ref (530:Nat)) :: []))) #[])) :: []
noncomputable def O5 (_ : Params) : Frag := []
noncomputable def L1 : List Stmt := B0.take 17
noncomputable def B1 : List Stmt := B0.drop 17
noncomputable def L2 : List Stmt := B1.take 21
noncomputable def B2 : List Stmt := B1.drop 21
noncomputable def L3 : List Stmt := B2.take 5
noncomputable def B3 : List Stmt := B2.drop 5
noncomputable def L4 : List Stmt := B3.take 3
noncomputable def B4 : List Stmt := B3.drop 3
noncomputable def L5 : List Stmt := B4
theorem go0 (w : World) (os : OsState) : topGo treeTable Challenge.pw_on0274_01 w 11 (some (.ref 6)) 12 ⟨H0 w.params, #[], boot_drawn, boot_toks, os⟩ (topStub Challenge.pw_on0274_01) = some ((ms 15 187 O0 w os).abs, ⟨denote treeTable (.body B0 eE), cE, p0, [topFrame p0]⟩) := by
  kernel_rfl!
theorem blk (w : World) (os : OsState) : segRun treeTable Challenge.pw_on0274_01 w 11 (some (.ref 6)) 1 1 (ms 15 187 O0 w os).abs (blockOf B0 eE cE p0 [topFrame p0]) = some (.next, (ms 15 187 O0 w os).abs, cE, p0) := by
  kernel_rfl!
theorem c1 (w : World) (os : OsState) : segRunT treeTable Challenge.pw_on0274_01 w 11 (some (.ref 6)) 1 1558 (ms 15 187 O0 w os) ⟨(execs L1 eE).wrap doneF deadEnd id id, cE, p0, [topFrame p0]⟩ = some (.next, ms 142 379 O1 w os, cE, ⟨43, 0, 49, 28⟩) := by
  rw [Fast.te10110043849684766642, Fast.te14364793385576792824, Fast.te12563942051412417395]
  kernel_rfl!
theorem c2 (w : World) (os : OsState) : segRunT treeTable Challenge.pw_on0274_01 w 11 (some (.ref 6)) 1 1367 (ms 142 379 O1 w os) ⟨(execs L2 eE).wrap doneF deadEnd id id, cE, ⟨43, 0, 49, 28⟩, [topFrame p0]⟩ = some (.next, ms 348 629 O2 w os, cE, ⟨125, 0, 142, 29⟩) := by
  rw [Fast.te10110043849684766642, Fast.te14364793385576792824, Fast.te12563942051412417395]
  kernel_rfl!
theorem c3 (w : World) (os : OsState) : segRunT treeTable Challenge.pw_on0274_01 w 11 (some (.ref 6)) 1 1064 (ms 348 629 O2 w os) ⟨(execs L3 eE).wrap doneF deadEnd id id, cE, ⟨125, 0, 142, 29⟩, [topFrame p0]⟩ = some (.next, ms 478 795 O3 w os, cE, ⟨182, 0, 202, 59⟩) := by
  rw [Fast.te10110043849684766642, Fast.te14364793385576792824, Fast.te12563942051412417395]
  kernel_rfl!
theorem c4 (w : World) (os : OsState) : segRunT treeTable Challenge.pw_on0274_01 w 11 (some (.ref 6)) 1 1457 (ms 478 795 O3 w os) ⟨(execs L4 eE).wrap doneF deadEnd id id, cE, ⟨182, 0, 202, 59⟩, [topFrame p0]⟩ = some (.next, ms 724 1133 O4 w os, cE, ⟨223, 0, 412, 16⟩) := by
  rw [Fast.te10110043849684766642, Fast.te14364793385576792824, Fast.te12563942051412417395]
  kernel_rfl!
theorem c5 (w : World) (os : OsState) : segRunT treeTable Challenge.pw_on0274_01 w 11 (some (.ref 6)) 1 1087 (ms 724 1133 O4 w os) ⟨(execs L5 eE).wrap doneF deadEnd id id, cE, ⟨223, 0, 412, 16⟩, [topFrame p0]⟩ = some (.next, ms 912 1370 O5 w os, cE, ⟨512, 0, 550, 15⟩) := by
  rw [Fast.te10110043849684766642, Fast.te14364793385576792824, Fast.te12563942051412417395]
  kernel_rfl!
theorem fin0 (w : World) (os : OsState) : topRun treeTable Challenge.pw_on0274_01 w 11 (some (.ref 6)) 2 (ms 912 1370 O5 w os).abs ⟨doneF .next, cE, ⟨512, 0, 550, 15⟩, [topFrame p0]⟩ = some (S1 w os) := by
  kernel_rfl!
theorem body_eq : B0 = L1 ++ (L2 ++ (L3 ++ (L4 ++ (L5 ++ [])))) := by
  rw [List.append_nil]
  unfold L1 L2 L3 L4 L5
  rw [show B4 = B3.drop 3 from rfl, List.take_append_drop, show B3 = B2.drop 5 from rfl, List.take_append_drop, show B2 = B1.drop 21 from rfl, List.take_append_drop, show B1 = B0.drop 17 from rfl, List.take_append_drop]
theorem run (w : World) (os : OsState) : topRun treeTable Challenge.pw_on0274_01 w 11 (some (.ref 6)) (12 + (1 + (1558 + (1367 + (1064 + (1457 + (1087 + 2))))))) ⟨H0 w.params, #[], boot_drawn, boot_toks, os⟩ (topStub Challenge.pw_on0274_01) = some (S1 w os) := by
  refine go_top (go0 w os) (piece_block (blk w os) ?_)
  rw [show restOf B0 eE cE p0 [topFrame p0] = restOf (L1 ++ (L2 ++ (L3 ++ (L4 ++ (L5 ++ []))))) eE cE p0 [topFrame p0] from congrArg (fun b => restOf b eE cE p0 [topFrame p0]) body_eq]
  exact piece_app (segRun_of (c1 w os)) (piece_app (segRun_of (c2 w os)) (piece_app (segRun_of (c3 w os)) (piece_app (segRun_of (c4 w os)) (piece_app (segRun_of (c5 w os)) (piece_nil (fin0 w os))))))

theorem look_a (w : World) (os : OsState) : (staticsOk mods (H0 w.params) (H1 w.params) && namesBound Challenge.pw_on0274_01 (H1 w.params) && gensDone (S1 w os) && laidKept (H0 w.params) (H1 w.params)) = true := by kernel_rfl!
theorem ls1 (w : World) (os : OsState) : seen ((recsOf q).map (·.name)) (ownsOf q) [] { (S1 w os) with gens := #[] } = expectedOf q := by
  rw [Fast.te5160383126252970620, Fast.te3399658132070893891, Fast.te5991557255702980513]
  kernel_rfl!
theorem ls2 (w : World) (os : OsState) : (S1 w os).heap.bltView = bltViewBooted := by
  kernel_rfl!
theorem ls3 (w : World) (os : OsState) : ((S1 w os).heap.keysOk (looseW q loose) ((recsOf q).map (·.name)) ((litsOf q).map (·.1)) ((clssOf q (looseW q loose)).map (·.name)) && (S1 w os).heap.accountedOkI mods && (S1 w os).heap.isNs mainGlobals && (S1 w os).heap.isNs builtinsNs && tablesOk q (S1 w os).heap && Xt (S1 w os) && (if true = true then (S1 w os).gens.size == 0 else !leftWithCleanup (S1 w os).gens)) = true := by
  rw [Fast.te10880121769531294198, Fast.te821141287760084731, Fast.te3399658132070893891, Fast.te7409074990110511671, Fast.te13664370479719496447, Fast.te14722251495701143533, Fast.te10994771534591457954]
  kernel_rfl!
theorem ls4 (w : World) (os : OsState) : tabsOk q (S1 w os) = true := by
  rw [Fast.te479339242167458305]
  kernel_rfl!
theorem ls5 (w : World) (os : OsState) : pinSeenD q (drecsOf q) (S1 w os) = pinGoodD (drecsOf q) := by
  rw [Fast.te16090120013241838585, Fast.te3247288618530077131]
  kernel_rfl!
theorem ls6 (w : World) (os : OsState) : plainSeenE q (looseW q loose) (S1 w os) = plainGoodE q (looseW q loose) := by
  rw [Fast.te2386780881361962483, Fast.te821141287760084731]
  kernel_rfl!
theorem ls7 (w : World) (os : OsState) : plainSeenD q loose (S1 w os) = plainGoodD q loose := by
  rw [Fast.te11698064438423848299]
  kernel_rfl!
theorem ls8 (w : World) (os : OsState) : wideSeen q (S1 w os) = wideGood q := by
  rw [Fast.te7317090234206586261]
  kernel_rfl!
theorem ls9 (w : World) (os : OsState) : clsSeenW q loose (S1 w os) = clsGoodW q loose := by
  rw [Fast.te7369524293546568484]
  kernel_rfl!
theorem look_s (w : World) (os : OsState) : openSeen q loose mods Xt true (S1 w os) = openGood q loose := by
  unfold openSeen openGood
  rw [ls1, ls2, ls3, ls4, ls5, ls6, ls7, ls8, ls9]
theorem look_y (w : World) (os : OsState) : Hook.obs H' (S1 w os) = Hook.val H' w := obs_of (k_as w.params) (k_chk w.params)
theorem look_t (w : World) (os : OsState) : ([519] : List Addr).map (S1 w os).heap.get? = [519].map fun _ => some (tabObj #[]) := by kernel_rfl!

theorem left : LeftO Challenge.pw_on0274_01 q loose Xt (Hook.obs H) (Hook.val H) 13016 :=
  LeftO.of_pieces (H₁ := H1) (gs₁ := #[]) (d₁ := {}) (k₁ := 1370) opens sized run (by decide +kernel)
    fun w => funext fun os => both (look_a w os) (both (look_s w os) (both (look_y w os) (look_t w os)))
end

end Mine

local macro_rules | `(tactic| k_in) => `(tactic| with_reducible first | assumption | exact Frag.In.keeps (by assumption) (Fr.keep (by assumption)))
local macro_rules | `(tactic| k_ne) => `(tactic| (refine neN ?_; (try dsimp only); with_reducible first | exact Nat.ne_of_lt (by assumption) | exact Nat.ne_of_gt (by assumption)))
local macro_rules | `(tactic| k_all) => `(tactic| first
  | (refine Mine.ne_all ?_; (dsimp only [AllLt]); with_reducible assumption)
  | (refine Mine.ne_row ?_; (dsimp only [Mine.RowLt]); with_reducible assumption))
local macro_rules | `(tactic| k_ne) => `(tactic| first | (with_reducible assumption) | exact Ne.symm (by with_reducible assumption))
local macro_rules | `(tactic| walk_at $s:str) => do
  let t := Lean.Syntax.mkStrLit ("own:" ++ s.getString)
  `(tactic| k_extra $t)
set_option maxRecDepth 100000 in
set_option maxHeartbeats 16000000 in
theorem PySem.Challenge.cw_on0274_01_holds : PySem.Challenge.rw_on0274_01.Holds := by
  w_on
  (k_with "own:eval Name" =>
    first
    | (k_here; (with_reducible rename Fr _ _ _ _ => kF); with_unfolding_all refine guard_global (by rfl) ?_; k_dflt (refine' name_B kF ?k1 ?k2 ?k3 ?k4 ?k5 ?_; (case k1 => k_asm); (case k2 => k_asm); (case k3 => k_is); (case k4 => boot_by_name); (case k5 => decide); k_whole))
    | fail "no")
  (k_with "own:eval Name" =>
    first
    | (k_here; (with_reducible rename Fr _ _ _ _ => kF); with_unfolding_all refine guard_global (by rfl) ?_; k_dflt (refine' name_K kF ?k1 ?k2 ?k3 ?_; (case k1 => k_asm); (case k2 => k_asm); (case k3 => k_is); k_whole))
    | fail "no")
  (k_with "own:eval Name" =>
    first
    | (k_here; k_dflt (refine' ld ?k1 ?k2 ?_; (case k1 => k_asm); (case k2 => exact rfl); k_whole))
    | fail "no")
  (k_with "own:getAttr ref" =>
    first
    | (k_here; k_dflt (first
        | (refine' get_own ?k1 ?k2 ?k3 ?k4 ?k5 ?k6 ?k7 ?k8 ?k9 ?_; (case k1 => k_asm); (case k2 => k_asm); (case k3 => k_inst); (case k4 => k_is); (case k5 => k_is); (case k6 => k_is); (case k7 => k_is); (case k8 => first | k_get | exact Mine.mEs_operands | exact Mine.mEs_random); (case k9 => k_handed); k_whole)
        | (refine' get_prop ?k1 ?k2 ?k3 ?k4 ?k5 ?k6 ?k7 ?k8 ?k9 ?_; (case k1 => k_asm); (case k2 => k_asm); (case k3 => k_inst); (case k4 => k_is); (case k5 => k_is); (case k6 => k_is); (case k7 => k_is); (case k8 => k_is); (case k9 => k_is); k_whole; k_enter)))
    | fail "no")
  (k_with "own:callWith ref" =>
    first
    | (k_here; k_dflt (first
        | (refine' callWith_K ?k1 ?k2 ?_; (case k1 => k_asm); (case k2 => k_is); k_whole)
        | (refine' callWith_K0 ?k1 ?k2 ?_; (case k1 => k_in); (case k2 => k_is); k_whole)))
    | fail "no")
  (k_with "own:eval Call" =>
    first
    | (
        k_here
        (fail_if_success (with_reducible rename Mine.DrawMark => hDM))
        (with_reducible show wpAny _ _ (eval (Expr.Call (Expr.Name (Str.ofString "_law_draw") _) _ _ _) _) _ _ _)
        (try ((rename Mine.Same _ _ => hS'); (replace hS' := Mine.same_of hS'); subst hS'))
        (try ((rename IntsAre _ _ => hI'); (rename (_ : List Int) = [] => hz'); (have hv' := Mine.no_ints hI' hz'); subst hv'; subst hz'))
        (rename Fr _ _ _ _ => dF')
        (rename News _ _ _ _ => dN')
        (first
          | ((with_unfolding_all refine' Mine.draw_again dF' dN' ?km ?kU ?_ ?_)
             (case km => with_unfolding_all rfl)
             (case kU => k_dflt k_updF))
          | ((with_unfolding_all refine' Mine.draw_call dF' dN' ?km ?kU ?kd ?_ ?_)
             (case km => with_unfolding_all rfl)
             (case kU => k_dflt k_updF)
             (case kd => with_unfolding_all assumption)))
        (all_goals (try dsimp only))
        (all_goals (try clear dF' dN'))
        (all_goals first
          | (intro r' tr' tc' ta' t' ep' h' tk' lo' hi' F' N'; (try dsimp only at N'); k_sweep; (try k_fold))
          | (intro r' tr' t' h' tk' lo' hi' F' N'; (try dsimp only at N'); k_sweep; (try k_fold))
          | (intro mk' o' hd' F' N'; (try dsimp only at N'); (try k_fold)))
        walk_say "DRAW")
    | fail "no")
  (k_with "own:setItem ref str" =>
    first
    | (
        k_here
        (with_reducible rename Mine.DrawMark => hDM)
        (rename Fr _ _ _ _ => dF')
        (rename News _ _ _ _ => dN')
        (with_unfolding_all refine' Mine.deck_set dF' dN' ?kU ?kd ?_)
        (case kU => k_dflt k_updF)
        (case kd => with_unfolding_all assumption)
        (intro h' o' F' N' hd' he')
        (try dsimp only at N')
        walk_say "DECKSET")
    | fail "no")
  (k_with "own:DrawEnd" =>
    first
    | (
        (rename _ = Mine.putAt _ _ => he')
        (refine Mine.DrawEnd.intro he' (by with_unfolding_all rfl) rfl ?h0 ?h1 (by assumption) (by assumption) ?hn)
        (case h0 => exact fmod_lo _ (by decide))
        (case h1 => exact fmod_hi _ (by decide))
        (case hn => kst_inAny))
    | fail "no")
  (k_with "own:exec Expr" =>
    first
    | (
        k_here
        (fail_if_success (with_reducible rename Mine.PostMark => hPM))
        (with_reducible show wpAny _ _ (exec (Stmt.Expr (Expr.Call (Expr.Attribute (Expr.Attribute (Expr.Name (Str.ofString "post") _) _ _) _ _) _ _ _) _) _) _ _ _)
        (rename Fr _ _ _ _ => dF')
        (rename News _ _ _ _ => dN')
        (with_unfolding_all refine' Mine.post_join (gx := 519) dF' dN' ?km ?kd ?hs ?_)
        (case km => with_unfolding_all rfl)
        (case kd => with_unfolding_all rfl)
        (case hs => kst_inAny)
        (try dsimp only)
        (repeat ((rename News _ _ _ _ => nX'); clear nX'))
        (repeat ((rename Fr _ _ _ _ => nX'); clear nX'))
        (intro hPM' lv' T' V' t' u' um' tm' th' tc' ta' h' tk' F' N')
        (try dsimp only at N')
        (try k_fold)
        walk_say "POST")
    | fail "no")
  (k_with "own:exec Assign" =>
    first
    | (
        k_here
        (with_reducible rename Mine.PostMark => hPM)
        (fail_if_success (with_reducible rename Mine.TurnMark => hTM))
        (with_reducible show wpAny _ _ (exec (Stmt.Assign [Expr.Name (Str.ofString "state") _] (Expr.Constant _ _ _) _) _) _ _ _)
        (rename Fr _ _ _ _ => dF')
        (rename News _ _ _ _ => dN')
        (with_unfolding_all refine' Mine.post_join2 (gx := 519) dF' dN' ?km ?kd ?hs ?_)
        (case km => with_unfolding_all rfl)
        (case kd => with_unfolding_all rfl)
        (case hs => kst_inAny)
        (try dsimp only)
        (repeat ((rename News _ _ _ _ => nX'); clear nX'))
        (repeat ((rename Fr _ _ _ _ => nX'); clear nX'))
        (intro hPM' lv' t' u' um' tm' th' tc' ta' h' tk' F' N')
        (try dsimp only at N')
        (try k_fold)
        walk_say "POST2")
    | fail "no")
  (k_with "own:exec Assign" =>
    first
    | (
        k_here
        (with_reducible rename Mine.TurnMark => hTM)
        (fail_if_success (with_reducible rename Mine.FoldMark => hFM))
        (rename OwnOff _ _ => hOO)
        (with_reducible show wpAny _ _ (exec (Stmt.Assign _ _ _) _) _ _ _)
        (rename News _ _ _ _ => dN')
        (with_unfolding_all refine' Mine.turn_join dN' ?_)
        (try dsimp only)
        (try clear dN')
        (intro hFM' N')
        (try k_fold)
        walk_say "FOLD")
    | fail "no")
  (k_with "own:setAttr ref" =>
    first
    | (
        k_here
        (with_reducible rename Mine.PostMark => hPM')
        (with_reducible show wpAny _ _ (setAttr _ (Str.ofString "random") _) _ _ _)
        k_dflt (refine' set_dict ?k1 ?k2 ?k3 ?k4 ?k5 ?k6 ?k7 ?k8 ?k9 ?k10 ?k11 ?k12 ?k13 ?_; (case k1 => k_asm); (case k2 => k_asm); (case k3 => k_asm); (case k4 => k_inst); (case k5 => exact rfl); (case k6 => k_is); (case k7 => k_is); (case k8 => k_is); (case k9 => k_is); (case k10 => exact Mine.mEs_has); (case k11 => exact Mine.mEs_put); (case k12 => k_upd); (case k13 => exact Mine.mEs_len); k_whole; intro h' F' N'; (try k_sweep))
        walk_say "RANDOM")
    | fail "no")
  (k_with "own:compareOp Eq ref ref" =>
    first
    | (
        k_here
        (with_reducible rename Mine.PostMark => hPM')
        (with_reducible show wpAny _ _ (compareOp CmpOp.Eq (Value.ref _) (Value.ref _)) _ _ _)
        k_dflt ((with_unfolding_all refine' PySem.SeqAt.eq_list_lengthsAt ?k1 ?k2 ?k3 ?k4 ?_); (case k1 => is_list); (case k2 => is_list); (case k3 => rfl); (case k4 => units_room); k_whole)
        walk_say "LENGTHS")
    | fail "no")
  (k_with "own:leaving ref" =>
    first
    | (k_here; exfalso; first | exact Mine.no_empty (by assumption) (by assumption) | exact Mine.no_empty' (by assumption) (by assumption))
    | fail "no")
  (k_with "own:subscriptTail Name BinOp ref int" =>
    first
    | (
        k_here
        (with_reducible rename Mine.DrawMark => hDM)
        (with_unfolding_all refine' Mine.item_mod ?k1 ?k2 ?k3 ?k4 ?_ ?k6)
        (case k1 => k_dflt is_list)
        (case k2 => with_reducible assumption)
        (case k3 => first | (with_reducible assumption) | exact decide_eq_false (by with_reducible assumption))
        (case k4 => ((try simp only [List.length_map, List.length_take]); omega))
        (case k6 => with_unfolding_all rfl)
        k_whole
        intro x' t')
    | fail "no")
  (k_with "own:eval Call" =>
    first
    | (
        k_here
        (fail_if_success (with_reducible rename Mine.DrawMark => hDM))
        (with_reducible show wpAny _ _ (eval (Expr.Call (Expr.Name (Str.ofString "_law_seeded") _) _ _ _) _) _ _ _)
        (rename Fr _ _ _ _ => dF')
        (rename News _ _ _ _ => dN')
        (with_unfolding_all refine' Mine.seeded_call dF' dN' ?km ?_ ?_)
        (case km => with_unfolding_all rfl)
        (all_goals (try dsimp only))
        (all_goals first
          | (intro r' tr' h' tk' eq' lo' hi' F' N'; (try dsimp only at N'); k_sweep; (try k_fold))
          | (intro mk'; (try k_fold)))
        walk_say "SEEDED")
    | fail "no")
  (k_with "own:eval Call" =>
    first
    | (
        k_here
        (fail_if_success (with_reducible rename Mine.DrawMark => hDM))
        (with_reducible show wpAny _ _ (eval (Expr.Call (Expr.Name (Str.ofString "_law_next") _) _ _ _) _) _ _ _)
        (try ((rename Mine.Same _ _ => hS'); (replace hS' := Mine.same_of hS'); subst hS'))
        (rename Fr _ _ _ _ => dF')
        (rename News _ _ _ _ => dN')
        (with_unfolding_all refine' Mine.next_call dF' dN' ?km ?k0 ?k1 ?_ ?_)
        (case km => with_unfolding_all rfl)
        (case k0 => omega)
        (case k1 => omega)
        (all_goals (try dsimp only))
        (all_goals first
          | (intro r' tr' h' tk' eq' lo' hi' F' N'; (try dsimp only at N'); k_sweep; (try k_fold))
          | (intro mk' nz'; (try k_fold)))
        walk_say "NEXT")
    | fail "no")
  (k_with "own:SdEnd" =>
    first
    | (
        (refine Mine.SdEnd.intro (by with_unfolding_all rfl) rfl ?h0 (by assumption) (by assumption) ?hn)
        (case h0 => first | exact Mine.sd_ne (by with_reducible assumption) | exact Mine.sd_eq (by with_reducible assumption) | exact Mine.sd_ne (by decide +kernel) | exact Mine.sd_eq (by decide +kernel) | exact Mine.sd_ne (by omega) | exact Mine.sd_eq (by omega))
        (case hn => kst_inAny))
    | fail "no")
  (k_with "own:NxEnd" =>
    first
    | (
        (refine Mine.NxEnd.intro (by with_unfolding_all rfl) rfl ?h0 (by assumption) (by assumption) ?hn)
        (case h0 => exact Mine.sev_end (by with_reducible assumption) (by with_reducible assumption) (by first | rfl | (simp only [rangeKs_length]; done) | decide))
        (case hn => kst_inAny))
    | fail "no")
  (k_with "own:FrEnd" =>
    first
    | (
        (refine Mine.FrEnd.intro (by with_unfolding_all rfl) rfl ?h0 (by assumption) (by assumption) ?hn)
        (case h0 => exact Mine.far_all (by with_reducible assumption) (by with_reducible assumption) (by with_reducible assumption) (by with_reducible assumption) (by with_reducible assumption))
        (case hn => kst_inAny))
    | fail "no")
  (k_with "own:exec Expr" =>
    first
    | (
        k_here
        (fail_if_success (with_reducible rename Mine.DrawMark => hDM))
        (with_reducible show wpAny _ _ (exec (Stmt.Expr (Expr.Call (Expr.Attribute _ (Str.ofString "seed") _) _ _ _) _) _) _ _ _)
        (rename Fr _ _ _ _ => dF')
        (rename News _ _ _ _ => dN')
        (with_unfolding_all refine' Mine.seed_exec dF' dN' ?km ?kz ?ki ?kU ?_ ?_)
        (case km => with_unfolding_all rfl)
        (case kz => with_unfolding_all rfl)
        (case ki => k_dflt k_mem)
        (case kU => k_dflt k_updF)
        (all_goals (try dsimp only))
        (all_goals first
          | (intro r' tr' h' tk' eq' lo' hi' F' N'; (try dsimp only at N'); (try (have eb' := Mine.sd_back eq' (by first | with_reducible assumption | decide) (by first | with_reducible assumption | decide); subst eb')); k_sweep; (try k_fold))
          | (intro mk'))
        walk_say "SEED")
    | fail "no")
  (k_with "own:SeedEnd" =>
    first
    | (
        (refine' Mine.SeedEnd.intro rfl ?kF ?kN ?hn ?h0)
        (case kF => assumption)
        (case kN => assumption)
        (case hn => kst_inAny)
        (case h0 => first | exact Mine.sd_ne (by with_reducible assumption) | exact Mine.sd_eq (by with_reducible assumption) | exact Mine.sd_ne (by decide +kernel) | exact Mine.sd_eq (by decide +kernel) | exact Mine.sd_ne (by omega) | exact Mine.sd_eq (by omega)))
    | fail "no")
  (k_with "own:eval Call Attribute" =>
    first
    | (
        k_here
        (fail_if_success (with_reducible rename Mine.DrawMark => hDM))
        (with_reducible show wpAny _ _ (eval (Expr.Call (Expr.Attribute _ (Str.ofString "next_number") _) _ _ _) _) _ _ _)
        (rename Fr _ _ _ _ => dF')
        (rename News _ _ _ _ => dN')
        (with_unfolding_all refine' Mine.num_call dF' dN' ?km ?ki ?kU ?k0 ?k1 ?_ ?_)
        (case km => with_unfolding_all rfl)
        (case ki => k_dflt k_mem)
        (case kU => k_dflt k_updF)
        (case k0 => omega)
        (case k1 => omega)
        (all_goals (try dsimp only))
        (all_goals first
          | (intro r' t1' t2' h' tk' eq' lo' hi' F' N'; (try dsimp only at N'); k_sweep; (try k_fold))
          | (intro mk'; (try k_fold)))
        walk_say "NUMBER")
    | fail "no")
  (k_with "own:NumEnd" =>
    first
    | (
        (refine' Mine.NumEnd.intro ?hv rfl ?kF ?kN ?hn ?h1 ?h2)
        (case hv => with_unfolding_all rfl)
        (case kF => assumption)
        (case kN => assumption)
        (case hn => kst_inAny)
        (case h1 => exact rfl)
        (case h2 => exact rfl))
    | fail "no")
  (k_with "own:eval Call" =>
    first
    | (
        k_here
        (fail_if_success (with_reducible rename Mine.FarMark => hDM))
        (with_reducible show wpAny _ _ (eval (Expr.Call (Expr.Name (Str.ofString "_law_far") _) _ _ _) _) _ _ _)
        (rename Fr _ _ _ _ => dF')
        (rename News _ _ _ _ => dN')
        (with_unfolding_all refine' Mine.far_call dF' dN' ?km ?kz ?ks ?ke ?_ ?_)
        (case km => with_unfolding_all rfl)
        (case kz => with_unfolding_all rfl)
        (case ks => with_unfolding_all rfl)
        (case ke => exact Mine.iter_all (by assumption) (by assumption) (by first | rfl | (simp only [rangeKs_length]; omega) | omega))
        (all_goals (try dsimp only))
        (all_goals first
          | (intro r' tr' h' tk' eq' F' N'; (try dsimp only at N'); k_sweep; (try k_fold))
          | (intro mk'; (try k_fold)))
        walk_say "FAR")
    | fail "no")
  (k_with "own:pyIter ref" =>
    first
    | (k_dflt (
        (rename Mine.NextOf _ => hz')
        (obtain ⟨z', hz2'⟩ := hz')
        (k_state_short (fun pre st => Mine.Sev pre.length z' st ∧ 0 < st ∧ st < 2147483647) "state")))
    | fail "no")
  (k_with "own:InvEndN" =>
    first
    | (k_dflt (
        (rename News _ _ _ _ => nE')
        (try simp only [List.push_toArray] at nE')
        (refine' kst_end ⟨_, _, _, _, _, _⟩ ?kF nE' ?hn ?ho ?ha ?hf ?hk ?hr ?hp)
        (case kF => assumption)
        (case hn => kst_inAny)
        (case ho => first | (intro p hp; kst_mem) | kst_anyIn)
        (case ha => rfl)
        (case hf => kst_facts)
        (case hk => kst_all)
        (case hr => kst_same)
        (case hp => kst_p)))
    | fail "no")
  (k_with "own:InvEndN" =>
    first
    | (k_dflt (
        (rename News _ _ _ _ => nE')
        (try simp only [List.push_toArray] at nE')
        (refine' kst_end ⟨_, _, _, _⟩ ?kF nE' ?hn ?ho ?ha ?hf ?hk ?hr ?hp)
        (case kF => assumption)
        (case hn => kst_inAny)
        (case ho => first | (intro p hp; kst_mem) | kst_anyIn)
        (case ha => rfl)
        (case hf => kst_facts)
        (case hk => kst_all)
        (case hr => kst_same)
        (case hp => kst_p)))
    | fail "no")
  (k_with "own:InvEndN" =>
    first
    | (k_dflt (
        (with_reducible rename Mine.DrawMark => hDM)
        (rename News _ _ _ _ => nE')
        (try simp only [List.push_toArray] at nE')
        (refine' kst_end ⟨_, _⟩ ?kF nE' ?hn ?ho ?ha ?hf ?hk ?hr ?hp)
        (case kF => assumption)
        (case hn => kst_inAny)
        (case ho => first | (intro p hp; kst_mem) | kst_anyIn)
        (case ha => rfl)
        (case hf => kst_facts)
        (case hk => kst_all)
        (case hr => kst_same)
        (case hp => kst_p)))
    | fail "no")
  (k_with "own:InvEndN" =>
    first
    | (k_dflt (
        (with_reducible rename Mine.PostMark => hPM')
        (rename News _ _ _ _ => nE')
        (try simp only [List.push_toArray] at nE')
        (refine' kst_end ⟨_, _, _, _, _, _, _, _, _⟩ ?kF nE' ?hn ?ho ?ha ?hf ?hk ?hr ?hp)
        (case kF => assumption)
        (case hn => kst_inAny)
        (case ho => first | (intro p hp; kst_mem) | kst_anyIn)
        (case ha => rfl)
        (case hf => kst_facts)
        (case hk => kst_all)
        (case hr => kst_same)
        (case hp => kst_p)))
    | fail "no")
  (k_with "own:execs cons" =>
    first
    | (
        k_here
        (with_reducible refine Mine.tok_join ?_)
        (intro tk')
        walk_say "TOK")
    | fail "no")
  (k_with "own:setAttr ref" =>
    first
    | (
        k_here
        (fail_if_success (with_reducible show wpAny _ _ (setAttr _ (Str.ofString "random") _) _ _ _))
        k_dflt (refine' set_dict ?k1 ?k2 ?k3 ?k4 ?k5 ?k6 ?k7 ?k8 ?k9 ?k10 ?k11 ?k12 ?k13 ?_; (case k1 => k_asm); (case k2 => k_asm); (case k3 => k_asm); (case k4 => k_inst); (case k5 => exact rfl); (case k6 => k_is); (case k7 => k_is); (case k8 => k_is); (case k9 => k_is); (case k10 => k_get); (case k11 => k_put); (case k12 => k_upd); (case k13 => exact Nat.le_of_ble_eq_true rfl); k_whole; intro h' F' N'; (try dsimp only at N'); (try k_sweep))
        walk_say "SETD")
    | fail "no")
  (k_with "own:ite" =>
    first
    | (
        k_here
        (first
          | (refine ite_pos (beq_iff_eq.mpr (by with_reducible assumption)) ?_)
          | (refine ite_neg (fun e' => absurd (beq_iff_eq.mp e') (by with_reducible assumption)) ?_))
        walk_say "PRUNED1")
    | fail "no")
  (k_with "own:SrandEnd" =>
    first
    | (
        (refine' Mine.SrandEnd.intro ?hs ?kF ?kN ?hn ?hr)
        (case hs => exact rfl)
        (case kF => assumption)
        (case kN => assumption)
        (case hn => kst_inAny)
        (case hr => first | with_reducible assumption | exact rfl))
    | fail "no")
  (k_with "own:call ref" =>
    first
    | (
        k_here
        (with_reducible show wpAny _ _ (call (Value.ref 864) [Value.ref _]) _ _ _)
        (with_reducible rename Mine.SrandKnown _ _ _ _ _ => hSr')
        (with_reducible rename Mine.PostMark => hPM')
        (rename Fr _ _ _ _ => dF')
        (rename News _ _ _ _ => dN')
        (with_unfolding_all refine' Mine.srand_use (gx := 519) hSr' hPM' dF' dN' ?hd ?ho ?hO ?hI ?hs ?_)
        (case hd => with_unfolding_all rfl)
        (case hs => kst_inAny)
        (case hO => first | (k_dflt exact Mine.off_two (by assumption) (by k_memK) (by k_memK)) | ((fail_if_success (with_reducible rename OwnOff _ _ => hX')); exact Mine.off_nil))
        (case hI => k_dflt (first | exact List.forall_mem_nil _ | kst_anyIn))
        (case ho => (refine ⟨?_, ?_, ?_, ?_, ?_, ?_, ?_, ?_, ?_, ?_, ?_, ?_, ?_, ?_, ?_, ?_, ?_⟩ <;> k_ne))
        (try dsimp only)
        (repeat ((rename News _ _ _ _ => nX'); clear nX'))
        (repeat ((rename Fr _ _ _ _ => nX'); clear nX'))
        (intro r' u' lv' h' tk' eq' lo' hi' F' N')
        (try dsimp only at N')
        (try (have eb' := Mine.sd_back eq' (by first | with_reducible assumption | decide) (by first | with_reducible assumption | decide); subst eb'))
        (try k_fold)
        walk_say "SRAND")
    | fail "no")
  refine holds_law Mine.said fun said => ?_
  refine holds_open (r := OpenLaw.row PySem.Challenge.rw_on0274_01) (q := Mine.q) (loose := [Str.ofString "RANDOM_BASE", Str.ofString "PostError", Str.ofString "Thing", Str.ofString "name", Str.ofString "OctetSource", Str.ofString "SourceFrame", Str.ofString "MachineCore", Str.ofString "Stack"]) (Xt := fun s => xlAt Mine.q [(Str.ofString "RANDOM_BASE", WData.int 2147483647)] s && recOk (RowW.records (OpenRow.toRowW (OpenLaw.row PySem.Challenge.rw_on0274_01))) s) (XP := XL Mine.q [(Str.ofString "RANDOM_BASE", WData.int 2147483647)]) (Yf := Hook.obs (kmHook Mine.K Mine.kAs Mine.k_as [519])) (Ya := Hook.val (kmHook Mine.K Mine.kAs Mine.k_as [519])) (YP := Hook.says (kmHook Mine.K Mine.kAs Mine.k_as [519])) (N := 13016)
    Mine.left (Hook.of (kmHook Mine.K Mine.kAs Mine.k_as [519])) (Hook.keeps (kmHook Mine.K Mine.kAs Mine.k_as [519])) (fun s e => xl_of s (Bool.and_eq_true_iff.mp e).1) XL.keeps (by rfl) (by rfl) (by rfl) (fun s e => recFacts_of (Bool.and_eq_true_iff.mp e).2) (by rfl) said (by decide +kernel) ⟨rfl, rfl, rfl, rfl, rfl, by decide +kernel⟩ ?hw ?hc
  (case hw => w_witness2)
  clear said
  (k_with "pyIter ref" => k_state_given ["state!"] (fun st₀ pre st rs => Mine.Same rs st ∧ 0 < st ∧ st < 2147483647 ∧ Mine.Iter pre.length st₀ st) "state" "row.state")
  (k_with "exec While Compare cons nil" => k_while_given ["state", "many"] (fun st m script found step left => 0 ≤ left ∧ 0 ≤ found ∧ found < 2147483647 ∧ 0 ≤ step ∧ step < 2147483647 ∧ Mine.Far st m found step left) (fun st m script found step left => left.toNat) "found" "step" "left")
  (k_with "measure" => exact Mine.w4_less (by with_reducible assumption))
  (k_with "state" => first
    | exact Mine.w1_turn (by with_reducible assumption) (by with_reducible assumption) (by with_reducible assumption) (by with_reducible assumption) (by with_reducible assumption)
    | exact Mine.w3_turn (by with_reducible assumption) (by with_reducible assumption) (by with_reducible assumption) rfl
    | exact Mine.w4_even (by with_reducible assumption) (by with_reducible assumption) (by with_reducible assumption) (by with_reducible assumption) (by with_reducible assumption)
    | exact Mine.w4_odd (by with_reducible assumption) (by with_reducible assumption) (by with_reducible assumption)
    | exact Mine.w3_start (by with_reducible assumption) (by with_reducible assumption) (by with_reducible assumption)
    | exact Mine.w1_startX (by with_reducible assumption) (by with_reducible assumption) (by with_reducible assumption) (by with_reducible assumption)
    | exact Mine.w4_start (by with_reducible assumption) (by with_reducible assumption) (by omega))
  (k_with "pyIter ref" => k_state (fun pre at' st rnd items => at' = 4 + 2 * (pre.length : Int) ∧ 0 < st ∧ st < 2147483647 ∧ Mine.Same rnd st ∧ items = []) "at" "state" "post.random" "post.operands.things")
  (k_with "state" => (with_reducible rename Mine.PostMark => hPM'); first
    | exact Mine.w5_turn (by with_reducible assumption) (by first | rfl | (with_reducible assumption)) (by with_reducible assumption) (by with_reducible assumption) rfl
    | exact Mine.w5_by (by with_reducible assumption) (by first | rfl | (with_reducible assumption)) (by with_reducible assumption) (by with_reducible assumption) (by with_reducible assumption) (by with_reducible assumption)
    | exact Mine.w5_turn (by with_reducible assumption) (by first | rfl | (with_reducible assumption)) (by with_reducible assumption) (by with_reducible assumption) (by omega)
    | exact Mine.w5_start (by decide) (by decide))
  k_go0
  (all_goals try k_fold)
  refine Mine.srand_in (by assumption) ?own ?_
  (case own =>
    intro E' m' s' T' V' x' dM' xs' dS' l' dk' cl' gx' tg' dT' n' n2' lv' nt' y' k' u' um' tm' th' t1' t2' t3' t4' t5' t6' v5' v6' od' oc' og' own' hPM' hO' hW' F' N'
    (obtain ⟨o1', o2', o3', o4', o5', o6', o7', o8', o9', o10', o11', o12', o13', o14', o15', o16', o17'⟩ := hO')
    k_steps)
  k_steps
  (all_goals (try k_data))
  all_goals w_report
