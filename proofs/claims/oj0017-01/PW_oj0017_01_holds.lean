import PyProof.Rows.All
import Wide.All
import OpenK.AllK
import Wide.FinOn
import Lean
import PySem.Challenge.RW_oj0017_01
set_option Elab.async false
section
open PySem PySem.W PyProof.Rows
set_option Elab.async false
namespace Mine
def view : Program := { PySem.Challenge.pw_oj0017_01 with main := { PySem.Challenge.pw_oj0017_01.main with body := ((PySem.Challenge.pw_oj0017_01.main.body.eraseIdx 11).eraseIdx 2).eraseIdx 0 } }
theorem ends_plain {p : Program} {N : Nat} {w : World} {β : Type} {g : Shared → β} {v : β} (e : opening p = plainProg p.main.scope.names) (hN : Nat.ble 600 N = true) (f : ∀ s, fenceModules? p s = some s)
    (h : ∀ os : OsState, (topFrom treeTable p w N ⟨boot_heap w.params, Array.mk [], boot_drawn, boot_toks, os⟩).map g = some v) : (openEnds treeTable p w N).map g = some v := by
  obtain ⟨⟨h1, gs, d, k, os⟩, e1, e2⟩ := Option.map_eq_some_iff.mp (boot_open e hN f w)
  obtain ⟨rfl, rfl, rfl, rfl⟩ : h1 = boot_heap w.params ∧ gs = Array.mk [] ∧ d = boot_drawn ∧ k = boot_toks := by simpa using e2
  unfold openEnds
  rw [e1]
  exact h os
section
local macro_rules | `(tactic| o_head $H) => `(tactic| (refine holds_open (q := view) (loose := [PySem.Str.ofString "LARGEST"]) (Xt := fun s => xlAt view [(PySem.Str.ofString "LARGEST", WData.int 65536)] s && recOk (RowW.records PySem.Challenge.rw_oj0017_01.row.toRowW) s) (XP := XL view [(PySem.Str.ofString "LARGEST", WData.int 65536)]) (Yf := Hook.obs $H) (Ya := Hook.val $H) (YP := Hook.says $H) (N := 1950) ?hl (Hook.of $H) (Hook.keeps $H) (fun s e => xl_of s (Bool.and_eq_true_iff.mp e).1) XL.keeps (by rfl) (by rfl) (by rfl) (fun s e => recFacts_of (Bool.and_eq_true_iff.mp e).2) (by rfl) (by first | assumption | decide +kernel) (by decide +kernel) ⟨rfl, rfl, rfl, rfl, rfl, by decide +kernel⟩ ?hw ?hc; (case hl => exact fun w => ends_plain (by kernel_rfl) (by kernel_rfl) (fun s => by kernel_rfl) (fun os => by (unfold topFrom; rw [PySem.W.Fast.te14082659384304107361, PySem.W.Fast.te14364793385576792824, PySem.W.Fast.te4187177175401517315]; kernel_rfl)))))
set_option maxRecDepth 100000 in
set_option maxHeartbeats 8000000 in
open_top hd for PySem.Challenge.rw_oj0017_01
end
end Mine
end
section
set_option Elab.async false
set_option maxRecDepth 100000
namespace Mine
open PySem PySem.W PySem.Spec PySem.Calls PyProof.Rows
theorem off_B1 : True := by
  w_top off
  trivial

theorem gsub_fr {h g h' : Heap} {as : List Addr} {L : Addr} {m : Str → Option Value} (k : GSub h g as) (F : Fr g L h' m) : GSub h h' as :=
  fun b o e n => F.keep b o (k b o e n)
theorem gsub_refl (h : Heap) (as : List Addr) : GSub h h as := fun _ _ e _ => e
theorem gsub_trans {h h' h'' : Heap} {as : List Addr} (k : GSub h h' as) (k' : GSub h' h'' as) : GSub h h'' as :=
  fun b o e n => k' b o (k b o e n) n
theorem gsub_list {h h' : Heap} {as : List Addr} (k : GSub h h' as) {l : Addr} {items : Array Value} (x : h.IsList l items) (n : l ∉ as) : h'.IsList l items :=
  let ⟨o, ho, r⟩ := x; ⟨o, k l o ho n, r⟩
theorem gsub_none {h h' : Heap} (k : GSub h h' []) : ∀ b o, h.get? b = some o → h'.get? b = some o := fun b o e => k b o e (fun q => nomatch q)
theorem news_sub {h₀ h : Heap} {L : Addr} {news small : List (Addr × Obj)} (N : News h₀ L h news) (hs : ∀ p ∈ small, p ∈ news) : News h₀ L h small := fun p hp => N p (hs p hp)
theorem updF_mem {d : Addr} {o : Obj} {news : List (Addr × Obj)} {g : Obj → List (Addr × Obj)} (U : UpdF d o news g) : ∀ p ∈ [(d, o)], p ∈ news := by
  obtain ⟨pre, post, rfl, _, _, _⟩ := U.split
  intro p hp
  rw [List.mem_singleton.mp hp]
  simp
theorem updF_news {h₀ h h' : Heap} {L d : Addr} {o o' : Obj} {news : List (Addr × Obj)} {g : Obj → List (Addr × Obj)}
    (N : News h₀ L h news) (U : UpdF d o news g) (k : GSub h h' [d]) (N' : News h₀ L h' [(d, o')]) : News h₀ L h' (g o') := by
  obtain ⟨pre, post, rfl, hg, h1, h2⟩ := U.split
  rw [hg]
  intro p hp
  rcases List.mem_append.mp hp with hp | hp
  · have z := N p (List.mem_append_left _ hp)
    exact ⟨k _ _ z.1 (by simpa using h1 p hp), z.2⟩
  · rcases List.mem_cons.mp hp with rfl | hp
    · exact N' _ (.head _)
    · have z := N p (List.mem_append_right _ (.tail _ hp))
      exact ⟨k _ _ z.1 (by simpa using h2 p hp), z.2⟩
theorem gsub_news {h₀ h h' : Heap} {L : Addr} {news : List (Addr × Obj)} (N : News h₀ L h news) (k : GSub h h' []) : News h₀ L h' news :=
  fun p hp => ⟨gsub_none k _ _ (N p hp).1, (N p hp).2⟩
theorem news_cons {h₀ h : Heap} {L a : Addr} {o : Obj} {news : List (Addr × Obj)} (N1 : News h₀ L h [(a, o)]) (N : News h₀ L h news) : News h₀ L h ((a, o) :: news) := by
  intro p hp
  rcases List.mem_cons.mp hp with rfl | hp
  · exact N1 _ (.head _)
  · exact N p hp

def AllNe (d : Addr) : List (Addr × Obj) → Prop
  | [] => True
  | p :: r => @Ne Nat p.1 d ∧ AllNe d r
theorem allNe_of {d : Addr} : ∀ {l : List (Addr × Obj)}, (∀ p ∈ l, p.1 ≠ d) → AllNe d l
  | [], _ => trivial
  | p :: _, h => ⟨h p (.head _), allNe_of fun q hq => h q (.tail _ hq)⟩
theorem new_ne {h g h' : Heap} {L L' a : Addr} {o : Obj} {small : List (Addr × Obj)} {as : List Addr} {h₀ : Heap} {news : List (Addr × Obj)} (k : GSub h g as) (N' : News g L' h' small) (hm : (a, o) ∈ small) (N : News h₀ L h news) (ha : a ∉ as) :
    ∀ p ∈ news, p.1 ≠ a := fun p hp q => by
  have := k _ _ (N p hp).1 (q ▸ ha)
  rw [q, (N' _ hm).2.2] at this
  cases this

theorem aside {G : Prop} (h : ∀ g : Prop, (G → g) → g) : G := h G id
theorem room3 {a b k n c : Nat} (h : a + n < c) (hb : Nat.ble (b + k) n = true) : a + b + k < c := by
  rw [Nat.add_assoc]; exact Nat.lt_of_le_of_lt (Nat.add_le_add_left (Nat.le_of_ble_eq_true hb) a) h
theorem room2 {a k n c : Nat} (h : a + n < c) (hb : Nat.ble k n = true) : a + k < c := Nat.lt_of_le_of_lt (Nat.add_le_add_left (Nat.le_of_ble_eq_true hb) a) h
def Cont (Q Q' : Flow → Shared → Prop) : Prop := ∀ f s', Q f s' → Q' f s'
theorem Cont.use {Q Q' : Flow → Shared → Prop} {f : Flow} {s : Shared} (c : Cont Q Q') (h : Q f s) : Q' f s := c f s h
theorem execs_gen {M : Model} {A : Around} {E : Value → Shared → Prop} {Q : Flow → Shared → Prop} {s : Shared} {env : Env} {st : Stmt} {rest : List Stmt}
    (h : ∀ Q', Cont (fun f s' => match f with | .next => wpAny M A (execs rest env) Q E s' | f => Q f s') Q' → wpAny M A (exec st env) Q' E s) : wpAny M A (execs (st :: rest) env) Q E s := wpAny_execs_cons (h _ fun _ _ q => q)
theorem body_gen {M : Model} {A : Around} {E : Value → Shared → Prop} {Q : Flow → Shared → Prop} {s : Shared} {env : Env} {b : List Stmt} (h : ∀ Q', Cont Q Q' → wpAny M A (execs b env) Q' E s) : wpAny M A (execs b env) Q E s := h _ fun _ _ q => q
theorem letAE {M : Model} {A0 : Around} {env : Env} {body : List Stmt} {Q : Flow → Shared → Prop} {E : Value → Shared → Prop} {s : Shared} (h : let e := env; let A' := A0.deeper e; wpAny M A' (execs body e) Q E s) : wpAny M (A0.deeper env) (execs body env) Q E s := h

abbrev specEs (P : Params) (k0 k1 k2 k3 k4 k5 k6 k7 k8 t0 t6 t7 t8 : Tok) (f : Int) (bl bp bb bn bm : Bool) (wd pr : Int) (x : Str) : List DictEntry :=
  [⟨PyData.keyHash P (Str.ofString "field"), .str (Str.ofString "field") k0, .int f t0⟩,
   ⟨PyData.keyHash P (Str.ofString "is_left"), .str (Str.ofString "is_left") k1, .bool bl⟩,
   ⟨PyData.keyHash P (Str.ofString "has_plus"), .str (Str.ofString "has_plus") k2, .bool bp⟩,
   ⟨PyData.keyHash P (Str.ofString "has_blank"), .str (Str.ofString "has_blank") k3, .bool bb⟩,
   ⟨PyData.keyHash P (Str.ofString "has_noughts"), .str (Str.ofString "has_noughts") k4, .bool bn⟩,
   ⟨PyData.keyHash P (Str.ofString "is_marked"), .str (Str.ofString "is_marked") k5, .bool bm⟩,
   ⟨PyData.keyHash P (Str.ofString "width"), .str (Str.ofString "width") k6, .int wd t6⟩,
   ⟨PyData.keyHash P (Str.ofString "precision"), .str (Str.ofString "precision") k7, .int pr t7⟩,
   ⟨PyData.keyHash P (Str.ofString "letter"), .str (Str.ofString "letter") k8, .str x t8⟩]
def IsSpec (P : Params) (es : List DictEntry) (f : Int) (bl bp bb bn bm : Bool) (wd pr : Int) (x : Str) : Prop :=
  ∃ k0 k1 k2 k3 k4 k5 k6 k7 k8 t0 t6 t7 t8, es = specEs P k0 k1 k2 k3 k4 k5 k6 k7 k8 t0 t6 t7 t8 f bl bp bb bn bm wd pr x

theorem IsSpec.of {P : Params} {k0 k1 k2 k3 k4 k5 k6 k7 k8 t0 t6 t7 t8 : Tok} {f : Int} {bl bp bb bn bm : Bool} {wd pr : Int} {x : Str} : IsSpec P (specEs P k0 k1 k2 k3 k4 k5 k6 k7 k8 t0 t6 t7 t8 f bl bp bb bn bm wd pr x) f bl bp bb bn bm wd pr x :=
  ⟨_, _, _, _, _, _, _, _, _, _, _, _, _, rfl⟩
theorem IsSpec.elim {P : Params} {es : List DictEntry} {f : Int} {bl bp bb bn bm : Bool} {wd pr : Int} {x : Str} (h : IsSpec P es f bl bp bb bn bm wd pr x) {G : Prop}
    (k : ∀ k0 k1 k2 k3 k4 k5 k6 k7 k8 t0 t6 t7 t8 : Tok, es = specEs P k0 k1 k2 k3 k4 k5 k6 k7 k8 t0 t6 t7 t8 f bl bp bb bn bm wd pr x → G) : G := by
  obtain ⟨k0, k1, k2, k3, k4, k5, k6, k7, k8, t0, t6, t7, t8, e⟩ := h
  exact k _ _ _ _ _ _ _ _ _ _ _ _ _ e
def MidP (Mid : Shared → Prop) (fl : Flow) (s' : Shared) : Prop := fl = .next ∧ Mid s'
theorem mid_ {M : Model} {A : Around} {E : Value → Shared → Prop} {Q : Flow → Shared → Prop} {s : Shared} {env : Env} {st : Stmt} (Mid : Shared → Prop)
    (h1 : wpAny M A (exec st env) (MidP Mid) E s) (h2 : ∀ s', Mid s' → Q .next s') : wpAny M A (exec st env) Q E s :=
  wpAny_mono h1 (fun fl s' h => h.1 ▸ h2 s' h.2) fun _ _ e => e

theorem mid_j {M : Model} {A : Around} {E : Value → Shared → Prop} {Q : Flow → Shared → Prop} {s : Shared} {env : Env} {st : Stmt} (P : (Flow → Shared → Prop) → Prop)
    (h1 : ∀ Qm, P Qm → wpAny M A (exec st env) Qm E s) (h2 : P Q) : wpAny M A (exec st env) Q E s := h1 Q h2
theorem gsub_less {h h' : Heap} {x : Addr} {o : Obj} {as : List Addr} (k : GSub h h' (x :: as)) (e : h.get? x = some o) (e' : h'.get? x = some o) : GSub h h' as := fun b o' q n => by
  by_cases hb : b = x
  · subst hb; rw [e] at q; cases q; exact e'
  · exact k b o' q (by simp [hb, n])
theorem fillNow : (fun (_ : OpenLaw) (_ : Params → Frag) => True) PySem.Challenge.rw_oj0017_01 hd.heap_39 := by
  k_fill; trivial
end Mine
end
section
set_option hygiene false in
local macro_rules | `(tactic| walk_at "my enter") => `(tactic| (refine' PySem.W.code_defG ?k1 ?k2 ?k3 ?k4 ?k5 ?kA ?kF ?kK ?k6 ?k7 ?k8 ?k9 ?kB ?_ ?c2 ?c3 ?c4 ?c5; (case kA => exact rfl); (case kF => exact rfl); (case kK => assumption); (case k1 => k_asm); (case k2 => k_asm); (case k3 => k_asm); (case k4 => k_asm); (case k5 => k_asm); (case k6 => k_is); (case k7 => k_is); (case k8 => ktr_room); (case k9 => exact PySem.BindsTo.of_eq rfl); (case c5 => decide); (case kB => exact PyProof.Rows.locs rfl); (case c2 => exact rfl); (case c3 => exact rfl); (case c4 => exact rfl); k_whole; intro g' L' h' FG' F' N' B' X' T' kG'; (try dsimp only); (try k_fold); refine body_gen ?_; intro Qf cf))
local macro_rules | `(tactic| walk_at "my step") => `(tactic| ((fail_if_success (with_reducible show PySem.wpAny _ _ (PySem.exec (PySem.Stmt.While _ _ _ _) _) _ _ _)); (fail_if_success (with_reducible show PySem.wpAny _ _ (PySem.exec (PySem.Stmt.For _ _ _ _ _) _) _ _ _)); (fail_if_success (with_reducible show PySem.wpAny _ _ (PySem.call (PySem.Value.ref 51) _) _ _ _)); (fail_if_success (with_reducible show PySem.wpAny _ _ (PySem.call (PySem.Value.ref 62) _) _ _ _)); (fail_if_success (with_reducible show PySem.wpAny _ _ (PySem.call (PySem.Value.ref 69) _) _ _ _)); (fail_if_success (with_reducible show PySem.wpAny _ _ (PySem.call (PySem.Value.ref 76) _) _ _ _)); (fail_if_success (with_reducible show PySem.wpAny _ _ (PySem.call (PySem.Value.ref 83) _) _ _ _)); (fail_if_success (with_reducible show PySem.wpAny _ _ (PySem.call (PySem.Value.ref 90) _) _ _ _)); (fail_if_success (with_reducible show PySem.wpAny _ _ (PySem.call (PySem.Value.ref 97) _) _ _ _)); (fail_if_success (with_reducible show PySem.wpAny _ _ (PySem.call (PySem.Value.ref 116) _) _ _ _)); (fail_if_success (with_reducible show PySem.wpAny _ _ (PySem.call (PySem.Value.ref 123) _) _ _ _)); (fail_if_success (with_reducible show PySem.wpAny _ _ (PySem.call (PySem.Value.ref 130) _) _ _ _)); (fail_if_success (with_reducible show PySem.wpAny _ _ (PySem.call (PySem.Value.ref 135) _) _ _ _)); (first | (k_unfold; (try dsimp only)) | (k_end; wrow_close) | walk1 | (dsimp only; walk1) | (leave1; walk_say "STEP leave1"; try dsimp only) | (with_reducible refine Mine.Cont.use (by assumption) ?_; (try dsimp only)) | fail "no step")))
local macro_rules | `(tactic| ktr_room) => `(tactic| first | exact Mine.room3 (by with_reducible assumption) (by rfl) | exact Mine.room2 (by with_reducible assumption) (by rfl))
local macro_rules | `(tactic| ktr_units) => `(tactic| first | exact Mine.room3 (by with_reducible assumption) (by rfl) | exact Mine.room2 (by with_reducible assumption) (by rfl))
local macro_rules | `(tactic| walk_at "eval Name") => `(tactic| (k_here; k_dflt (refine' PySem.W.nameX_L ?F ?v ?_ ?a ?b; (case b => rfl); (case a => rfl); (case F => k_asm); (case v => assumption); k_whole)))
set_option hygiene false in
local macro_rules | `(tactic| walk_at "execs cons") => `(tactic| (k_here; (try k_gentoks); (try k_made); with_reducible refine Mine.execs_gen ?_; intro Qz cz))
section
set_option Elab.async false
set_option maxRecDepth 100000
set_option pp.maxSteps 250
set_option pp.deepTerms false
namespace Mine
open PySem PySem.W PySem.Spec PySem.Calls PyProof.Rows
theorem off_D1 : True := by
  w_top off
  trivial
local macro_rules | `(tactic| walk_at "none") => `(tactic| skip)
theorem fillNow1 : (fun (_ : OpenLaw) (_ : Params → Frag) => True) PySem.Challenge.rw_oj0017_01 hd.heap_39 := by
  k_fill; trivial
section
variable {prog : Program} {w : World} {mg mb : Str → Option Value} {p : Program} {loose : List Str} {mean : ExcName → Option Value}
variable {dp un : Nat} {gd : Option (List Code)} {cn : Str} {cs : Scope} {a : Addr} {ccd : Value} {cl : List (Str × Addr)} {outer : List Env} {A₀ : Around} {base h₀ : Heap} {L : Addr} {m : Str → Option Value} {s : Shared} {Q E : Value → Shared → Prop}
variable (B : Below A₀ base outer h₀) (F : Fr h₀ L s.heap m) (X : (hd.heap_39 w.params).In h₀) (T : Top p loose mean mg mb h₀) (hk : cs.kind = .function)
include B F X T hk

set_option maxHeartbeats 8000000 in
theorem draw_K {news : List (Addr × Obj)} {g : Obj → List (Addr × Obj)} {d l : Addr} {vs : List Value} {ns : List Int} {k many : Int} {t0 tm : Tok} {n : Nat}
    (N0 : News h₀ L s.heap news) (U : UpdF d (listOf [.ref l, .int k t0].toArray n) news g)
    (hl : s.heap.IsList l vs.toArray) (hld : l ≠ d) (hi : IntsAre vs ns) (hlen : ns.length ≤ 40) (k0 : 0 ≤ k) (k1 : k ≤ 100) (m0 : 0 < many)
    (hd : dp + 1 < recursionLimit) (hu : un + 8 < cLine)
    (ret : ∀ r t t1 h' tk', 0 ≤ r → r < many → Fr h₀ L h' m → News h₀ L h' (g (listOf [.ref l, .int (k + 1) t1].toArray n)) → GSub s.heap h' [d] → Q (.int r t) { s with heap := h', toks := tk' }) :
    wpAny (model prog w) (ktrTop dp un gd cn cs L a ccd cl outer) (call (.ref 104) [.ref d, .int many tm]) Q E s := by
  have N : News h₀ L s.heap [(d, listOf [.ref l, .int k t0].toArray n)] := news_sub N0 (updF_mem U)
  refine wpAny_call ?_
  k_dflt (walk_at "my enter")
  have hgl : g'.IsList l vs.toArray := gsub_list kG' hl (by simpa using hld)
  (repeat' (walk_at "my step"))
  · exact ret _ _ _ _ _ (Int.fmod_nonneg_of_pos _ m0) (Int.fmod_lt_of_pos _ m0) (by k_asm) (updF_news N0 U (gsub_fr kG' (by assumption)) (by k_asm)) (gsub_fr kG' (by assumption))
  · exact ret _ _ _ _ _ (Int.fmod_nonneg_of_pos _ m0) (Int.fmod_lt_of_pos _ m0) (by k_asm) (updF_news N0 U (gsub_fr kG' (by assumption)) (by k_asm)) (gsub_fr kG' (by assumption))
end
end Mine
end
section
set_option Elab.async false
set_option maxRecDepth 100000
set_option pp.maxSteps 250
set_option pp.deepTerms false
namespace Mine
open PySem PySem.W PySem.Spec PySem.Calls PyProof.Rows
theorem off_D2 : True := by
  w_top off
  trivial
theorem fillNow2 : (fun (_ : OpenLaw) (_ : Params → Frag) => True) PySem.Challenge.rw_oj0017_01 hd.heap_39 := by
  k_fill; trivial
theorem itemStr_K {prog : Program} {w : World} {A : Around} {E : Value → Shared → Prop} {s : Shared} {value slice : Expr} {x : Str} {t u : Tok} {k : Int} {Q : Value → Shared → Prop}
    (h0 : 0 ≤ k) (h1 : k < (x.length : Int)) (h2 : x.length ≤ 1000000) (h : ∀ c, c ∈ x.cps.toList → Q (.str ⟨#[c]⟩ s.toks) { s with toks := s.toks + 1 })
    (hs : subscripted slice false (.str x t) (.int k u) = operate [.str x t, .int k u] (getItem (.str x t) (.int k u)) := by with_unfolding_all rfl) :
    wpAny (model prog w) A (subscriptTail value slice (.str x t) (.int k u)) Q E s := by
  have hlt : k.toNat < x.cps.size := by have : x.length = x.cps.size := rfl; omega
  refine tail_any (T := "str") (typeIs_str s x t) PySem.F.slot_str_getitem.lookup (P.getItem_str (c := x.cps[k.toNat]) ?_ ?_ (h _ (by simp [Array.getElem_mem]))) hs
  · simp only [Bool.or_eq_false_iff, decide_eq_false_iff_not]; omega
  · have : seqIndex? k x.length = some k.toNat := by
      unfold seqIndex?
      have h3 : ¬ k < 0 := by omega
      simp [h3]; omega
    rw [this]; simp [hlt]
section
variable {prog : Program} {w : World} {mg mb : Str → Option Value} {p : Program} {loose : List Str} {mean : ExcName → Option Value}
variable {dp un : Nat} {gd : Option (List Code)} {cn : Str} {cs : Scope} {a : Addr} {ccd : Value} {cl : List (Str × Addr)} {outer : List Env} {A₀ : Around} {base h₀ : Heap} {L : Addr} {m : Str → Option Value} {s : Shared} {Q E : Value → Shared → Prop}
variable (B : Below A₀ base outer h₀) (F : Fr h₀ L s.heap m) (X : (hd.heap_39 w.params).In h₀) (T : Top p loose mean mg mb h₀) (hk : cs.kind = .function)
include B F X T hk

set_option maxHeartbeats 8000000 in
theorem pickS_K {news : List (Addr × Obj)} {g : Obj → List (Addr × Obj)} {d l : Addr} {vs : List Value} {ns : List Int} {k : Int} {t0 tm : Tok} {n : Nat} {x : Str}
    (N0 : News h₀ L s.heap news) (U : UpdF d (listOf [.ref l, .int k t0].toArray n) news g)
    (hl : s.heap.IsList l vs.toArray) (hld : l ≠ d) (hi : IntsAre vs ns) (hlen : ns.length ≤ 40) (k0 : 0 ≤ k) (k1 : k ≤ 100) (m0 : 0 < x.length) (m1 : x.length ≤ 100)
    (hd : dp + 5 < recursionLimit) (hu : un + 40 < cLine)
    (ret : ∀ (c : Nat) t t1 h' tk', c ∈ x.cps.toList → Fr h₀ L h' m → News h₀ L h' (g (listOf [.ref l, .int (k + 1) t1].toArray n)) → GSub s.heap h' [d] → Q (.str ⟨#[c]⟩ t) { s with heap := h', toks := tk' }) :
    wpAny (model prog w) (ktrTop dp un gd cn cs L a ccd cl outer) (call (.ref 111) [.ref d, .str x tm]) Q E s := by
  have N : News h₀ L s.heap [(d, listOf [.ref l, .int k t0].toArray n)] := news_sub N0 (updF_mem U)
  refine wpAny_call ?_
  k_dflt (walk_at "my enter")
  have hgl : g'.IsList l vs.toArray := gsub_list kG' hl (by simpa using hld)
  (repeat' ((fail_if_success (with_reducible show wpAny _ _ (call (Value.ref 104) _) _ _ _)); walk_at "my step"))
  k_dflt (refine' draw_K ?kB ?kF ?kX ?kT ?kK ?kN ?kU ?kl ?kd ?ki ?kz ?k0 ?k1 ?km ?kr ?ku ?_; (case kB => k_asm); (case kF => k_asm); (case kX => k_asm); (case kT => k_asm); (case kK => first | exact rfl | assumption); (case kN => k_asm); (case kU => k_updF); (case kl => is_list); (case kd => k_ne); (case ki => assumption); (case kz => assumption); (case k0 => omega); (case k1 => omega); (case km => first | omega | decide); (case kr => ktr_room); (case ku => ktr_units)); intro r' tr' tr1' hr' tkr' hr0 hr1 Fr' Nr' Kr'; (try dsimp only at Nr'); (try dsimp only); (try k_fold)
  (repeat' (walk_at "my step"))
  with_unfolding_all refine itemStr_K hr0 hr1 (by omega) ?_
  intro c hc
  (repeat' (walk_at "my step"))
  exact ret _ _ _ _ _ hc (by k_asm) (updF_news N0 U (gsub_fr kG' (by assumption)) (by k_asm)) (gsub_fr kG' (by assumption))

set_option maxHeartbeats 8000000 in
theorem pickL_K {news : List (Addr × Obj)} {g : Obj → List (Addr × Obj)} {d l lx : Addr} {vs xs : List Value} {ns ks : List Int} {k : Int} {t0 : Tok} {n : Nat}
    (N0 : News h₀ L s.heap news) (U : UpdF d (listOf [.ref l, .int k t0].toArray n) news g)
    (hl : s.heap.IsList l vs.toArray) (hld : l ≠ d) (hi : IntsAre vs ns) (hlen : ns.length ≤ 40) (k0 : 0 ≤ k) (k1 : k ≤ 100)
    (hx : s.heap.IsList lx xs.toArray) (hxd : lx ≠ d) (hxi : IntsAre xs ks) (m0 : 0 < ks.length) (m1 : ks.length ≤ 100)
    (hd : dp + 5 < recursionLimit) (hu : un + 40 < cLine)
    (ret : ∀ (c : Int) t t1 h' tk', c ∈ ks → Fr h₀ L h' m → News h₀ L h' (g (listOf [.ref l, .int (k + 1) t1].toArray n)) → GSub s.heap h' [d] → Q (.int c t) { s with heap := h', toks := tk' }) :
    wpAny (model prog w) (ktrTop dp un gd cn cs L a ccd cl outer) (call (.ref 111) [.ref d, .ref lx]) Q E s := by
  have N : News h₀ L s.heap [(d, listOf [.ref l, .int k t0].toArray n)] := news_sub N0 (updF_mem U)
  refine wpAny_call ?_
  k_dflt (walk_at "my enter")
  have hgl : g'.IsList l vs.toArray := gsub_list kG' hl (by simpa using hld)
  have hgx : g'.IsList lx xs.toArray := gsub_list kG' hx (by simpa using hxd)
  (repeat' ((fail_if_success (with_reducible show wpAny _ _ (call (Value.ref 104) _) _ _ _)); walk_at "my step"))
  k_dflt (refine' draw_K ?kB ?kF ?kX ?kT ?kK ?kN ?kU ?kl ?kd ?ki ?kz ?k0 ?k1 ?km ?kr ?ku ?_; (case kB => k_asm); (case kF => k_asm); (case kX => k_asm); (case kT => k_asm); (case kK => first | exact rfl | assumption); (case kN => k_asm); (case kU => k_updF); (case kl => is_list); (case kd => k_ne); (case ki => assumption); (case kz => assumption); (case k0 => omega); (case k1 => omega); (case km => first | omega | decide); (case kr => ktr_room); (case ku => ktr_units)); intro r' tr' tr1' hr' tkr' hr0 hr1 Fr' Nr' Kr'; (try dsimp only at Nr'); (try dsimp only); (try k_fold)
  (repeat' (walk_at "my step"))
  refine ret _ _ _ _ _ ?_ (by k_asm) (updF_news N0 U (gsub_fr kG' (by assumption)) (by k_asm)) (gsub_fr kG' (by assumption))
  have hlt : r'.toNat < ks.length := by omega
  rw [List.getD_eq_getElem?_getD, List.getElem?_eq_getElem hlt]
  exact List.getElem_mem hlt
end
end Mine
end
section
namespace Mine
open PySem PySem.W
inductive Ltr | d | o | x | X
deriving DecidableEq
def Ltr.code : Ltr → Nat | .d => 100 | .o => 111 | .x => 120 | .X => 88
def Ltr.str : Ltr → Str | .d => Str.ofString "d" | .o => Str.ofString "o" | .x => Str.ofString "x" | .X => Str.ofString "X"
theorem Ltr.str_code (l : Ltr) : l.str = ⟨#[l.code]⟩ := by cases l <;> rfl
def Ltr.radix : Ltr → Nat | .d => 10 | .o => 8 | .x => 16 | .X => 16
def Ltr.foot : Ltr → Int | .X => 55 | _ => 87
def sgn (l : Ltr) (own : Int) : Int := if own < 10 then 48 + own else l.foot + own
theorem Ltr.radix2 (l : Ltr) : 8 ≤ l.radix ∧ l.radix ≤ 16 := by cases l <;> decide
def digs (l : Ltr) (n : Nat) : List Nat := n % l.radix :: (if _h : n < l.radix then [] else digs l (n / l.radix))
termination_by n
decreasing_by exact Nat.div_lt_self (by have := l.radix2; omega) (by have := l.radix2; omega)
def figs (l : Ltr) (n : Nat) : List Int := (digs l n).map fun d : Nat => sgn l (d : Int)
def fin (l : Ltr) (N : Nat) (F : List Int) : List Int := if 0 < N ∨ F = [] then F ++ figs l N else F
end Mine
end
section
namespace Mine
open PySem PySem.W PySem.Spec PySem.Calls PyProof.Rows PyProof.V
def Ltr.pick {α : Type} : Ltr → α → α → α → α → α | .d, a, _, _, _ => a | .o, _, a, _, _ => a | .x, _, _, a, _ => a | .X, _, _, _, a => a
theorem kysD_pick {l : Ltr} {lt : Str} (hlt : l.str = lt) {d0 d1 d2 d3 : PyData} {C : PyData → Prop} {N : Prop} (h : C (l.pick d0 d1 d2 d3)) :
    KysD PyData.str lt [(.str (Str.ofString "d"), d0), (.str (Str.ofString "o"), d1), (.str (Str.ofString "x"), d2), (.str (Str.ofString "X"), d3)] C N := by
  subst hlt
  cases l
  · exact kysD_cons_hit PyProof.V.same_str rfl h
  · exact kysD_cons_miss PyProof.V.same_str (by decide +kernel) (kysD_cons_hit PyProof.V.same_str rfl h)
  · exact kysD_cons_miss PyProof.V.same_str (by decide +kernel) (kysD_cons_miss PyProof.V.same_str (by decide +kernel) (kysD_cons_hit PyProof.V.same_str rfl h))
  · exact kysD_cons_miss PyProof.V.same_str (by decide +kernel) (kysD_cons_miss PyProof.V.same_str (by decide +kernel) (kysD_cons_miss PyProof.V.same_str (by decide +kernel) (kysD_cons_hit PyProof.V.same_str rfl h)))
theorem kysD_radix {l : Ltr} {lt : Str} (hlt : l.str = lt) {t0 t1 t2 t3 u0 u1 u2 u3 : Tok} {C : PyData → Prop} {N : Prop} (h : C (.int l.radix)) :
    KysD PyData.str lt (strData [(.str (Str.ofString "d") t0, .int 10 u0), (.str (Str.ofString "o") t1, .int 8 u1), (.str (Str.ofString "x") t2, .int 16 u2), (.str (Str.ofString "X") t3, .int 16 u3)]) C N :=
  kysD_pick hlt (by cases l <;> exact h)
def Ltr.menu : Ltr → Str | .d => Str.ofString "0123456789" | .o => Str.ofString "01234567" | .x => Str.ofString "0123456789abcdef" | .X => Str.ofString "0123456789ABCDEF"
theorem kysD_menu {l : Ltr} {lt : Str} (hlt : l.str = lt) {t0 t1 t2 t3 u0 u1 u2 u3 : Tok} {C : PyData → Prop} {N : Prop} (h : C (.str l.menu)) :
    KysD PyData.str lt (strData [(.str (Str.ofString "d") t0, .str (Str.ofString "0123456789") u0), (.str (Str.ofString "o") t1, .str (Str.ofString "01234567") u1), (.str (Str.ofString "x") t2, .str (Str.ofString "0123456789abcdef") u2), (.str (Str.ofString "X") t3, .str (Str.ofString "0123456789ABCDEF") u3)]) C N :=
  kysD_pick hlt (by cases l <;> exact h)
theorem kysD_radixV {l : Ltr} {lt : Str} (hlt : l.str = lt) {t0 t1 t2 t3 u0 u1 u2 u3 : Tok} {R : Value → Prop} {N : Prop} (h : ∀ t, R (.int l.radix t)) :
    KysD PyData.str lt (strData [(.str (Str.ofString "d") t0, .int 10 u0), (.str (Str.ofString "o") t1, .int 8 u1), (.str (Str.ofString "x") t2, .int 16 u2), (.str (Str.ofString "X") t3, .int 16 u3)]) (fun dv => KysVal dv R) N :=
  kysD_radix hlt (KysVal.intro fun v hv => by obtain ⟨t, rfl⟩ := hv.int_inv; exact h t)
theorem kysD_menuV {l : Ltr} {lt : Str} (hlt : l.str = lt) {t0 t1 t2 t3 u0 u1 u2 u3 : Tok} {R : Value → Prop} {N : Prop} (h : ∀ t, R (.str l.menu t)) :
    KysD PyData.str lt (strData [(.str (Str.ofString "d") t0, .str (Str.ofString "0123456789") u0), (.str (Str.ofString "o") t1, .str (Str.ofString "01234567") u1), (.str (Str.ofString "x") t2, .str (Str.ofString "0123456789abcdef") u2), (.str (Str.ofString "X") t3, .str (Str.ofString "0123456789ABCDEF") u3)]) (fun dv => KysVal dv R) N :=
  kysD_menu hlt (KysVal.intro fun v hv => by obtain ⟨t, rfl⟩ := hv.str_inv; exact h t)
theorem keys4 : [Str.ofString "d", Str.ofString "o", Str.ofString "x", Str.ofString "X"].Nodup := by decide +kernel
end Mine
end
section
namespace Mine
open PySem PySem.W
theorem figs_eq (l : Ltr) (n : Nat) : figs l n = sgn l ((n % l.radix : Nat) : Int) :: (if n < l.radix then [] else figs l (n / l.radix)) := by
  unfold figs
  rw [digs]
  split <;> simp
theorem fin_take {l : Ltr} {hi p k : Nat} {F T : List Int} (h : 0 < p ∨ 0 < hi ∨ F = []) (hp : p < l.radix ^ (k + 1)) (e : fin l (hi * l.radix ^ (k + 1) + p) F = T) :
    fin l (hi * l.radix ^ k + p / l.radix) (F ++ [sgn l ((p % l.radix : Nat) : Int)]) = T ∧ p / l.radix < l.radix ^ k := by
  have hr := l.radix2
  have hpos : 0 < l.radix ^ (k + 1) := Nat.pow_pos (by omega)
  have e1 : hi * l.radix ^ (k + 1) + p = p + l.radix * (hi * l.radix ^ k) := by rw [Nat.pow_succ]; rw [← Nat.mul_assoc, Nat.mul_comm l.radix, Nat.add_comm]
  have hN : 0 < hi * l.radix ^ (k + 1) + p ∨ F = [] := by
    rcases h with h | h | h
    · left; omega
    · left; have := Nat.mul_pos h hpos; omega
    · exact .inr h
  have m1 : (hi * l.radix ^ (k + 1) + p) % l.radix = p % l.radix := by rw [e1, Nat.add_mul_mod_self_left]
  have d1 : (hi * l.radix ^ (k + 1) + p) / l.radix = hi * l.radix ^ k + p / l.radix := by rw [e1, Nat.add_mul_div_left _ _ (by omega), Nat.add_comm]
  refine ⟨?_, Nat.div_lt_of_lt_mul (by rw [Nat.pow_succ, Nat.mul_comm] at hp; exact hp)⟩
  unfold fin at e
  rw [if_pos hN, figs_eq, m1, d1] at e
  unfold fin
  rw [← e]
  by_cases hlt : hi * l.radix ^ (k + 1) + p < l.radix
  · have z : hi * l.radix ^ k + p / l.radix = 0 := by rw [← d1]; exact Nat.div_eq_of_lt hlt
    rw [if_pos hlt, if_neg (by rw [z]; simp)]
  · have z : 0 < hi * l.radix ^ k + p / l.radix := by rw [← d1]; exact Nat.div_pos (by omega) (by omega)
    rw [if_neg hlt, if_pos (.inl z)]; simp
theorem fin_skip {l : Ltr} {hi p k : Nat} {F T : List Int} (h1 : ¬ 0 < p) (h2 : ¬ 0 < hi) (e : fin l (hi * l.radix ^ (k + 1) + p) F = T) : fin l (hi * l.radix ^ k + p) F = T ∧ p < l.radix ^ k := by
  have hr := l.radix2
  have a : p = 0 := by omega
  have b : hi = 0 := by omega
  subst a b
  simp only [Nat.zero_mul, Nat.add_zero] at e ⊢
  exact ⟨e, Nat.pow_pos (by omega)⟩
theorem digs_len {l : Ltr} : ∀ (k n : Nat), n < 8 ^ (k + 1) → (digs l n).length ≤ k + 1
  | k, n, h => by
    have hr := l.radix2
    rw [digs]
    split
    · simp
    · rename_i hn
      match k with
      | 0 => exfalso; simp at h; omega
      | k + 1 =>
        have : n / l.radix < 8 ^ (k + 1) := by
          refine Nat.div_lt_of_lt_mul (Nat.lt_of_lt_of_le h ?_)
          rw [Nat.pow_succ, Nat.mul_comm]
          exact Nat.mul_le_mul_right _ hr.1
        have := digs_len (l := l) k (n / l.radix) this
        simp only [List.length_cons]; omega
theorem figs_len {l : Ltr} {n : Nat} (h : n < 10 ^ 31) : (figs l n).length ≤ 35 := by
  unfold figs; rw [List.length_map]; exact digs_len 34 n (Nat.lt_trans h (by decide))
theorem fin_len {l : Ltr} {n N : Nat} {F : List Int} (h : n < 10 ^ 31) (e : fin l N F = figs l n) : F.length ≤ 35 := by
  have q := figs_len (l := l) h
  rw [← e] at q
  unfold fin at q
  split at q
  · rw [List.length_append] at q; omega
  · exact q
end Mine
namespace Mine
open PySem PySem.W
theorem noPy {x : Int} {C : Nat} (h : C ≤ 1099511627776) : Builtin.divisionGoesByPylong x (C : Int) = false := by
  refine PyProof.noPylong_of_log2 ?_
  by_cases h0 : C = 0
  · subst h0; decide +kernel
  · have : C.log2 < 41 := (Nat.log2_lt h0).mpr (by omega)
    simp only [Int.natAbs_natCast]; omega
end Mine
namespace Mine
open PySem PySem.W
end Mine
namespace Mine
open PySem PySem.W
theorem foot_X {l : Ltr} (h : (l.str == Str.ofString "X") = true) : l.foot = 55 := by
  cases l
  · exact absurd h (by decide +kernel)
  · exact absurd h (by decide +kernel)
  · exact absurd h (by decide +kernel)
  · rfl
theorem foot_nX {l : Ltr} (h : (l.str == Str.ofString "X") = false) : l.foot = 87 := by
  cases l
  · rfl
  · rfl
  · rfl
  · exact absurd h (by decide +kernel)
theorem sgn_lo {l : Ltr} {d : Int} (h : d < 10) : 48 + d = sgn l d := by unfold sgn; rw [if_pos h]
theorem sgn_X {l : Ltr} {d : Int} (h : ¬ d < 10) (e : (l.str == Str.ofString "X") = true) : 55 + d = sgn l d := by unfold sgn; rw [if_neg h, foot_X e]
theorem sgn_nX {l : Ltr} {d : Int} (h : ¬ d < 10) (e : (l.str == Str.ofString "X") = false) : 87 + d = sgn l d := by unfold sgn; rw [if_neg h, foot_nX e]
theorem fdivN (a b : Nat) : (a : Int).fdiv (b : Int) = ((a / b : Nat) : Int) := by rw [Int.fdiv_eq_ediv_of_nonneg _ (by omega)]; rfl
theorem fmodN (a b : Nat) : (a : Int).fmod (b : Int) = ((a % b : Nat) : Int) := by rw [Int.fmod_eq_emod_of_nonneg _ (by omega)]; rfl
theorem fin_take8 {l : Ltr} {hi p i : Nat} {F T : List Int} (hi8 : i < 8) (h : 0 < p ∨ 0 < hi ∨ F = []) (hp : p < l.radix ^ (8 - i)) (e : fin l (hi * l.radix ^ (8 - i) + p) F = T) :
    p / l.radix < l.radix ^ (8 - (i + 1)) ∧ fin l (hi * l.radix ^ (8 - (i + 1)) + p / l.radix) (F ++ [sgn l ((p % l.radix : Nat) : Int)]) = T := by
  rw [show 8 - i = (8 - (i + 1)) + 1 by omega] at hp e
  exact (fin_take h hp e).symm
theorem fin_skip8 {l : Ltr} {hi p i : Nat} {F T : List Int} (hi8 : i < 8) (h1 : ¬ 0 < p) (h2 : ¬ 0 < hi) (e : fin l (hi * l.radix ^ (8 - i) + p) F = T) : p < l.radix ^ (8 - (i + 1)) ∧ fin l (hi * l.radix ^ (8 - (i + 1)) + p) F = T := by
  rw [show 8 - i = (8 - (i + 1)) + 1 by omega] at e
  exact (fin_skip h1 h2 e).symm
end Mine
namespace Mine
open PySem PySem.W PySem.Calls PyProof.Rows
theorem inv_end2 {h₀ : Heap} {L : Addr} {J : (Str → Option Value) → List (Addr × Obj) → Prop} {m' : Str → Option Value} {own : List (Addr × Obj)} {t e : Addr × Obj} {s₁ : Shared} {h' : Heap} {tk : Nat} (F : Fr h₀ L h' m') (N : News h₀ L h' (t :: e :: own))
    (hj : J m' [e]) {adr : List Addr} (ha : [e.1] = adr) : InvEndN h₀ L J own adr s₁ { s₁ with heap := h', toks := tk } :=
  InvEndN.intro F N hj ha (fun q hq => by rw [List.mem_singleton.mp hq]; exact List.Mem.tail _ (List.Mem.head _)) (fun _ hp => List.Mem.tail _ (List.Mem.tail _ hp))
theorem inv_end1 {h₀ : Heap} {L : Addr} {J : (Str → Option Value) → List (Addr × Obj) → Prop} {m' : Str → Option Value} {own : List (Addr × Obj)} {e : Addr × Obj} {s₁ : Shared} {h' : Heap} {tk : Nat} (F : Fr h₀ L h' m') (N : News h₀ L h' (e :: own))
    (hj : J m' [e]) {adr : List Addr} (ha : [e.1] = adr) : InvEndN h₀ L J own adr s₁ { s₁ with heap := h', toks := tk } :=
  InvEndN.intro F N hj ha (fun q hq => by rw [List.mem_singleton.mp hq]; exact List.Mem.head _) (fun _ hp => List.Mem.tail _ hp)
end Mine
namespace Mine
open PySem PySem.W PySem.Calls PyProof.Rows
theorem inv_end3 {h₀ : Heap} {L : Addr} {J : (Str → Option Value) → List (Addr × Obj) → Prop} {m' : Str → Option Value} {own : List (Addr × Obj)} {t t' e : Addr × Obj} {s₁ : Shared} {h' : Heap} {tk : Nat} (F : Fr h₀ L h' m') (N : News h₀ L h' (t :: t' :: e :: own))
    (hj : J m' [e]) {adr : List Addr} (ha : [e.1] = adr) : InvEndN h₀ L J own adr s₁ { s₁ with heap := h', toks := tk } :=
  inv_end2 F (t := t') (fun p hp => N p (List.Mem.tail _ hp)) hj ha
end Mine
namespace Mine
open PySem PySem.W PySem.Calls PyProof.Rows
theorem divmod_NK {prog : Program} {w : World} {A : Around} {E : Value → Shared → Prop} {s : Shared} {x : Int} {C : Nat} {t u : Tok} {Q : Value → Shared → Prop} {h₀ : Heap} {L : Addr} {m : Str → Option Value} {news : List (Addr × Obj)} (F : Fr h₀ L s.heap m) (N : News h₀ L s.heap news) (hb : (C : Int) ≠ 0)
    (hC : C ≤ 1099511627776)
    (h : ∀ D h', Fr h₀ L h' m → News h₀ L h' ((D, { cls := .type "tuple", data := .seq #[.int (x.fdiv C) s.toks, .int (x.fmod C) (s.toks + 1)] }) :: news) → (∀ p ∈ news, p.1 < D) →
      Q (.ref D) { s with toks := s.toks + 1 + 1, heap := h' }) :
    wpAny (model prog w) A (call (.builtin "divmod") [.int x t, .int C u]) Q E s :=
  divmod_N F N hb (fun h' F' N' => h _ h' F' N' (fun p hp => Heap.lt_size (N p hp).1)) (Or.inl (noPy hC))
end Mine
end
section
namespace Mine
open PySem PySem.W PySem.Calls PyProof.Rows
def ncHead (bp bb : Bool) (n : Int) : List Int := if n < 0 then [45] else if bp = true then [43] else if bb = true then [32] else []
def ncF1 (l : Ltr) (pr n : Int) : List Int := List.replicate (pr - (figs l n.natAbs).length).toNat 48 ++ (figs l n.natAbs).reverse
def ncF2 (l : Ltr) (bm : Bool) (F : List Int) : List Int := if bm = true ∧ l = .o ∧ F.getD 0 0 ≠ 48 then [48] ++ F else F
def ncH2 (l : Ltr) (bm : Bool) (n : Int) (H : List Int) : List Int := if bm = true ∧ (l = .x ∨ l = .X) ∧ n ≠ 0 then H ++ [48, (l.code : Int)] else H
def ncF3 (bl bn : Bool) (wd pr : Int) (H F : List Int) : List Int := if bn = true ∧ bl = false ∧ pr < 0 then List.replicate (wd - H.length - F.length).toNat 48 ++ F else F
theorem ncHead_len (bp bb : Bool) (n : Int) : (ncHead bp bb n).length ≤ 1 := by unfold ncHead; split; · simp
                                                                                split; · simp
                                                                                split <;> simp
theorem absN (n : Int) : (if n < 0 then -n else n) = (n.natAbs : Int) := by split <;> omega
theorem flat48 (k : Nat) (c : Int) : (List.replicate k [c]).flatten = List.replicate k c := by
  induction k with
  | zero => rfl
  | succ q ih => rw [List.replicate_succ, List.flatten_cons, ih]; rfl
theorem maxN (x : Int) : (if x > 0 then x else 0).toNat = x.toNat := by split <;> omega
theorem eq_o {l : Ltr} : (l.str == Str.ofString "o") = decide (l = .o) := by cases l <;> decide +kernel
end Mine
namespace Mine
open PySem PySem.W PySem.Calls PyProof.Rows
theorem figs_pos (l : Ltr) (n : Nat) : 1 ≤ (figs l n).length := by rw [figs_eq]; simp
theorem ncF1_len {l : Ltr} {pr n : Int} (h : n.natAbs < 10 ^ 31) (p : pr ≤ 100) : 1 ≤ (ncF1 l pr n).length ∧ (ncF1 l pr n).length ≤ 135 := by
  have a := figs_len (l := l) h
  have b := figs_pos l n.natAbs
  unfold ncF1
  rw [List.length_append, List.length_replicate, List.length_reverse]
  omega
theorem ncF2_len {l : Ltr} {bm : Bool} {F : List Int} : (ncF2 l bm F).length ≤ F.length + 1 := by
  unfold ncF2; split <;> simp
theorem ncH2_len {l : Ltr} {bm : Bool} {n : Int} {H : List Int} : (ncH2 l bm n H).length ≤ H.length + 2 := by
  unfold ncH2; split <;> simp
theorem ncF3_len {bl bn : Bool} {wd pr : Int} {H F : List Int} (hw : wd ≤ 100) : (ncF3 bl bn wd pr H F).length ≤ F.length + 100 := by
  unfold ncF3; split
  · rw [List.length_append, List.length_replicate]; omega
  · omega
end Mine
namespace Mine
open PySem PySem.W PySem.Calls PyProof.Rows
theorem ord_ltr {prog : Program} {w : World} {A : Around} {E : Value → Shared → Prop} {s : Shared} {l : Ltr} {lt : Str} {t : Tok} {Q : Value → Shared → Prop} (hlt : l.str = lt) (h : Q (.int l.code s.toks) { s with toks := s.toks + 1 }) :
    wpAny (model prog w) A (call (.builtin "ord") [.str lt t]) Q E s := by
  subst hlt; rw [Ltr.str_code]; exact P.ord_of_char h
end Mine
namespace Mine
open PySem PySem.W PySem.Calls PyProof.Rows
theorem in_xX {l : Ltr} : (Builtin.Str.occurrences (Str.ofString "xX") l.str 0 (Str.ofString "xX").length 1).isEmpty = decide (¬ (l = .x ∨ l = .X)) := by cases l <;> decide +kernel
end Mine
namespace Mine
theorem tf {b : Bool} (h1 : b = true) (h2 : b = false) : False := by rw [h1] at h2; cases h2
end Mine
end
section
namespace Mine
open PySem PySem.W PySem.Calls PyProof.Rows
theorem str_invN {prog : Program} {w : World} {A : Around} {E : Value → Shared → Prop} {s : Shared} {env : Env} {h₀ : Heap} {x : Str} {body : List Stmt} {Q : Flow → Shared → Prop} {xt : Str} {tx : Tok} {m₀ : Str → Option Value} {news : List (Addr × Obj)}
    (J : Nat → (Str → Option Value) → List (Addr × Obj) → Prop) (hh : A.handled = none) (F : Fr h₀ env.locals s.heap m₀) (N : News h₀ env.locals s.heap news) (hj : J 0 m₀ news)
    (turn : ∀ i c t m₁ nx h tk own, xt.cps[i]? = some c → OwnOff own (news.map (·.1)) → J i m₁ nx → Fr h₀ env.locals h (fun y => if y = x then some (.str ⟨#[c]⟩ t) else m₁ y) → News h₀ env.locals h (nx ++ own) →
      wpAny (model prog w) A (execs body env) (InvPostN h₀ env.locals (J (i + 1)) own (news.map (·.1)) { s with heap := h, toks := tk } Q) E { s with heap := h, toks := tk })
    (done : ∀ m₁ nx h tk, J xt.cps.size m₁ nx → Fr h₀ env.locals h m₁ → News h₀ env.locals h nx → Q .next { s with heap := h, toks := tk }) :
    wpAny (model prog w) A (pyIter (.str xt tx)) (fun it s₂ => LoopAtV prog w A h₀ env x body Q E it s₂) E s := by
  refine wpAny_pyIter_str fun o St hW hst => ?_
  have off : ∀ p ∈ news, p.1 ∉ [s.heap.objs.size] := fun p hp hI => Nat.lt_irrefl _ ((List.mem_singleton.mp hI) ▸ Heap.lt_size (N p hp).1)
  refine loop_invN J (hW A hh) (fun hm => Nat.lt_irrefl _ ((List.mem_singleton.mp hm) ▸ F.ns.lt)) (fun b hb => by rw [List.mem_singleton.mp hb]; exact next_is_new F) off off hst (F.push _)
    (fun p hp => ⟨Heap.get?_push_of_some _ (N p hp).1, (N p hp).2⟩) hj ?_ done
  rintro i v m₁ nx h tk own _ ⟨c, u, hc, rfl⟩ _ hoff hJ F₁ N₁
  exact turn i c u m₁ nx h tk own hc hoff hJ F₁ N₁

def dch (l : Ltr) (d : Nat) : Nat := (sgn l (d : Int)).toNat
theorem menu_len (l : Ltr) : l.menu.length = l.radix := by cases l <;> decide +kernel
theorem menu_all (l : Ltr) : ∀ d : Fin 16, d.val < l.radix → (Builtin.Str.occurrences l.menu ⟨#[dch l d.val]⟩ 0 l.menu.length 1).isEmpty = false ∧ Txt.find l.menu ⟨#[dch l d.val]⟩ = d.val := by cases l <;> decide +kernel
theorem menu_has {l : Ltr} {d : Nat} (h : d < l.radix) : (Builtin.Str.occurrences l.menu ⟨#[dch l d]⟩ 0 l.menu.length 1).isEmpty = false := (menu_all l ⟨d, by have := l.radix2; omega⟩ h).1
theorem menu_find {l : Ltr} {d : Nat} (h : d < l.radix) : Txt.find l.menu ⟨#[dch l d]⟩ = d := (menu_all l ⟨d, by have := l.radix2; omega⟩ h).2
def worth (l : Ltr) (ds : List Nat) : Nat := ds.foldl (fun f d => f * l.radix + d) 0
section
variable {prog : Program} {w : World} {A : Around} {E : Value → Shared → Prop} {s : Shared} {l : Ltr} {d : Nat} {t u : Tok} {Q : Value → Shared → Prop}
theorem notIn_menu (hd : d < l.radix) (h : Q (.bool false) s) : wpAny (model prog w) A (compareOp .NotIn (.str ⟨#[dch l d]⟩ u) (.str l.menu t)) Q E s := notIn_str (by rw [menu_has hd]; exact h)
theorem index_menu (hA : A.handled = none) (hd : d < l.radix) (h : Q (.int d s.toks) { s with toks := s.toks + 1 }) : wpAny (model prog w) A (call (.builtin "str.index") [.str l.menu t, .str ⟨#[dch l d]⟩ u]) Q E s :=
  index_or hA (fun q => absurd (q.symm.trans (menu_find hd)) (by omega)) fun _ _ => by rw [menu_find hd]; exact h
theorem len_menu (h : Q (.int l.radix (s.toks + 1)) { s with toks := s.toks + 1 + 1 }) : wpAny (model prog w) A (call (.builtin "len") [.str l.menu t]) Q E s :=
  len_str (by rw [menu_len]; have := l.radix2; omega) (by rw [menu_len]; exact h)
end
end Mine
end
section
namespace Mine
open PySem PySem.W PySem.Calls PyProof.Rows
def has (x : Str) (c : String) : Bool := !(Builtin.Str.occurrences x (Str.ofString c) 0 x.length 1).isEmpty
def sgOf (flags : Str) (n : Int) : Str := if n < 0 then Str.ofString "-" else if has flags "+" = true then Str.ofString "+" else if has flags " " = true then Str.ofString " " else Str.ofString ""
def mkOf (flags lt : Str) (l : Ltr) (n : Int) : Str := if has flags "#" = true ∧ (l = .x ∨ l = .X) ∧ n ≠ 0 then Str.ofString "0" ++ lt else Str.ofString ""
def needA (flags : Str) (l : Ltr) (n pr : Int) (np : Nat) : Int := max ((np : Int) + (if has flags "#" = true ∧ l = .o ∧ n ≠ 0 then 1 else 0)) pr
def fillsOf (flags : Str) (pr : Int) : Bool := has flags "0" && (!has flags "-" && decide (pr < 0))
def needB (flags : Str) (l : Ltr) (n pr wd : Int) (np ns nm : Nat) : Int := if fillsOf flags pr = true then max (needA flags l n pr np) (wd - ns - nm) else needA flags l n pr np
structure Right (l : Ltr) (lt flags X BR LS RS BR2 FG G PL sg mk : Str) (ds : List Nat) (wd pr n La Tr a0 : Int) : Prop where
  z1 : X.length ≤ sizeLine
  z2 : BR.length + 1 ≤ sizeLine
  z3 : BR2.length ≤ sizeLine
  z4 : FG.length ≤ sizeLine
  z5 : G.length ≤ sizeLine
  e1 : Txt.stripChars X (Str.ofString " ") = BR
  e2 : Txt.lstripChars X (Str.ofString " ") = LS
  e3 : Txt.rstripChars X (Str.ofString " ") = RS
  ea : (X.length : Int) - LS.length = a0
  et : (X.length : Int) - RS.length = Tr
  eg : sg = sgOf flags n
  eb : (sg == Str.ofString " ") = true → Str.ofString " " ++ BR = BR2 ∧ a0 - 1 = La
  eb' : (sg == Str.ofString " ") = false → BR = BR2 ∧ a0 = La
  s1 : Txt.startswith BR2 sg = true
  l0 : 0 ≤ La
  l1 : La = 0 ∨ Tr = 0
  c1 : Txt.slice BR2 (some (sg.length : Int)) none = FG
  em : mk = mkOf flags lt l n
  s2 : Txt.startswith FG mk = true
  c2 : Txt.slice FG (some (mk.length : Int)) none = G
  hG : G = ⟨(ds.map (dch l)).toArray⟩
  hds : ∀ d ∈ ds, d < l.radix
  hw : worth l ds = n.natAbs
  ep : PL = if n ≠ 0 then Txt.lstripChars G (Str.ofString "0") else Str.ofString "0"
  ez : has flags "#" = true → l = .o → Txt.slice G none (some 1) = Str.ofString "0"
  k1 : (G.length : Int) = max (needB flags l n pr wd PL.length sg.length mk.length) PL.length
  k2 : (X.length : Int) = max wd (sg.length + mk.length + G.length)
  k3 : if has flags "-" = true then La = 0 else Tr = 0
def RightEx (l : Ltr) (lt flags X : Str) (wd pr n : Int) : Prop := ∃ BR LS RS BR2 FG G PL sg mk ds La Tr a0, Right l lt flags X BR LS RS BR2 FG G PL sg mk ds wd pr n La Tr a0
section
variable {prog : Program} {w : World} {A : Around} {E : Value → Shared → Prop} {s : Shared} {x y z : Str} {t u : Tok} {Q : Value → Shared → Prop} {h₀ : Heap} {L : Addr} {m : Str → Option Value} {news : List (Addr × Obj)} {value slice : Expr}
theorem starts_true (e : Txt.startswith x y = true) (h : Q (.bool true) s) : wpAny (model prog w) A (call (.builtin "str.startswith") [.str x t, .str y u]) Q E s := SC.startswith (by rw [e]; exact h)
theorem slice_sn_eq {i : Int} {ui : Tok} (e : Txt.slice x (some i) none = y) (hsz : x.length ≤ sizeLine) (hF : Fr h₀ L s.heap m) (hN : News h₀ L s.heap news) (h : ∀ h' t' k, Fr h₀ L h' m → News h₀ L h' news → Q (.str y t') { s with heap := h', toks := k })
    (hs : subscripted slice false (.str x t) (.ref s.heap.objs.size) = operate [.ref s.heap.objs.size, .str x t] (getItem (.str x t) (.ref s.heap.objs.size)) := by with_unfolding_all rfl)
    (ht : ∀ r, letTemporaryGo value (.str x t) r = pure () := by intro _; with_unfolding_all rfl) :
    wpAny (model prog w) A (subscriptTail value slice (.str x t) (.ref s.heap.objs.size)) Q E { s with heap := s.heap.push { cls := .type "slice", data := .fields #[.int i ui, .none, .none] } } :=
  slice_strN_sn hF hN (fun h' t' k a b => by rw [e]; exact h h' t' k a b) hs ht hsz
end
end Mine
namespace Mine
open PySem PySem.W PySem.Calls PyProof.Rows
theorem len_line {prog : Program} {w : World} {A : Around} {E : Value → Shared → Prop} {s : Shared} {x : Str} {t : Tok} {Q : Value → Shared → Prop} (hz : x.length ≤ sizeLine) (h : Q (.int x.length (s.toks + 1)) { s with toks := s.toks + 1 + 1 }) :
    wpAny (model prog w) A (call (.builtin "len") [.str x t]) Q E s := len_str (by rw [sizeLine_eq] at hz; omega) h
theorem sgOf_len (flags : Str) (n : Int) : (sgOf flags n).length ≤ 1 := by
  unfold sgOf
  split
  · decide +kernel
  split
  · decide +kernel
  split <;> decide +kernel
theorem mkOf_len {flags lt : Str} {l : Ltr} {n : Int} (h : l.str = lt) : (mkOf flags lt l n).length ≤ 2 := by
  subst h
  unfold mkOf
  split
  · cases l <;> decide +kernel
  · decide +kernel
end Mine
namespace Mine
open PySem PySem.W PySem.Calls PyProof.Rows
section
variable {flags : Str} {n : Int}
theorem has_t {x : Str} {c : String} (h : (Builtin.Str.occurrences x (Str.ofString c) 0 x.length 1).isEmpty = false) : has x c = true := by unfold has; rw [h]; rfl
theorem has_f {x : Str} {c : String} (h : (Builtin.Str.occurrences x (Str.ofString c) 0 x.length 1).isEmpty = true) : has x c = false := by unfold has; rw [h]; rfl
theorem sg1 (h : n < 0) : Str.ofString "-" = sgOf flags n := (if_pos h).symm
theorem sg2 (h : ¬ n < 0) (h2 : (Builtin.Str.occurrences flags (Str.ofString "+") 0 flags.length 1).isEmpty = false) : Str.ofString "+" = sgOf flags n := by unfold sgOf; rw [if_neg h, if_pos (has_t h2)]
theorem sg3 (h : ¬ n < 0) (h2 : (Builtin.Str.occurrences flags (Str.ofString "+") 0 flags.length 1).isEmpty = true) (h3 : (Builtin.Str.occurrences flags (Str.ofString " ") 0 flags.length 1).isEmpty = false) : Str.ofString " " = sgOf flags n := by
  unfold sgOf; rw [if_neg h, if_neg (by rw [has_f h2]; decide), if_pos (has_t h3)]
theorem sg4 (h : ¬ n < 0) (h2 : (Builtin.Str.occurrences flags (Str.ofString "+") 0 flags.length 1).isEmpty = true) (h3 : (Builtin.Str.occurrences flags (Str.ofString " ") 0 flags.length 1).isEmpty = true) : Str.ofString "" = sgOf flags n := by
  unfold sgOf; rw [if_neg h, if_neg (by rw [has_f h2]; decide), if_neg (by rw [has_f h3]; decide)]
end
end Mine
namespace Mine
open PySem PySem.W
end Mine
namespace Mine
open PySem PySem.W PySem.Calls PyProof.Rows
section
variable {flags lt : Str} {l : Ltr} {n pr wd : Int} {np ns nm : Nat}
theorem fills1 (h : (Builtin.Str.occurrences flags (Str.ofString "0") 0 flags.length 1).isEmpty = true) : (!(Builtin.Str.occurrences flags (Str.ofString "0") 0 flags.length 1).isEmpty) = fillsOf flags pr := by
  unfold fillsOf; rw [has_f h, h]; rfl
theorem fills2 (h : (Builtin.Str.occurrences flags (Str.ofString "0") 0 flags.length 1).isEmpty = false) (h2 : (Builtin.Str.occurrences flags (Str.ofString "-") 0 flags.length 1).isEmpty = true) : decide (pr < 0) = fillsOf flags pr := by
  unfold fillsOf; rw [has_t h, has_f h2]; simp
theorem fills3 (h : (Builtin.Str.occurrences flags (Str.ofString "0") 0 flags.length 1).isEmpty = false) (h2 : (Builtin.Str.occurrences flags (Str.ofString "-") 0 flags.length 1).isEmpty = false) :
    (!!(Builtin.Str.occurrences flags (Str.ofString "-") 0 flags.length 1).isEmpty) = fillsOf flags pr := by
  unfold fillsOf; rw [has_t h, has_t h2, h2]; rfl
theorem need1 (h : (Builtin.Str.occurrences flags (Str.ofString "#") 0 flags.length 1).isEmpty = true) :
    (if pr > (np : Int) + (if (!(Builtin.Str.occurrences flags (Str.ofString "#") 0 flags.length 1).isEmpty) = true then 1 else 0) then pr else (np : Int) + (if (!(Builtin.Str.occurrences flags (Str.ofString "#") 0 flags.length 1).isEmpty) = true then 1 else 0)) = needA flags l n pr np := by
  unfold needA; rw [has_f h, h]; simp only [Bool.not_true, Bool.false_eq_true, false_and, if_false]; split <;> omega
theorem mx (a b : Int) : (if b > a then b else a) = max a b := by split <;> omega
theorem need2 (h : (Builtin.Str.occurrences flags (Str.ofString "#") 0 flags.length 1).isEmpty = false) (ho : l = .o) :
    (if pr > (np : Int) + (if (n != 0) = true then 1 else 0) then pr else (np : Int) + (if (n != 0) = true then 1 else 0)) = needA flags l n pr np := by
  rw [mx]; unfold needA; rw [has_t h]
  by_cases q : n = 0 <;> simp [q, ho]
theorem need3 (h : (Builtin.Str.occurrences flags (Str.ofString "#") 0 flags.length 1).isEmpty = false) (ho : ¬ l = .o) (hb : (lt == Str.ofString "o") = false) :
    (if pr > (np : Int) + (if (lt == Str.ofString "o") = true then 1 else 0) then pr else (np : Int) + (if (lt == Str.ofString "o") = true then 1 else 0)) = needA flags l n pr np := by
  rw [mx]; unfold needA; rw [hb]; simp [ho]
theorem needB1 (h : fillsOf flags pr = true) : (if wd - (ns : Int) - (nm : Int) > needA flags l n pr np then wd - (ns : Int) - (nm : Int) else needA flags l n pr np) = needB flags l n pr wd np ns nm := by
  unfold needB; rw [if_pos h]; split <;> omega
theorem needB2 (h : fillsOf flags pr = false) : needA flags l n pr np = needB flags l n pr wd np ns nm := by
  unfold needB; rw [if_neg (by rw [h]; decide)]
end
end Mine
end
section
namespace Mine
open PySem PySem.W PySem.Calls PyProof.Rows
theorem off_P7 : True := by
  w_top off
  trivial
local macro_rules | `(tactic| walk_at "none") => `(tactic| skip)
theorem comp_inv {prog : Program} {w : World} {A : Around} {h₀ : Heap} {L : Addr} {m : Str → Option Value} {env : Env} {elt : Expr} {x : Str} {scope : Scope} {cl : List (Str × Addr)} {s : Shared} {S : List (Addr × Obj) → Prop} {P : Nat → Value → Prop} {Fin : List Value → List (Addr × Obj) → Prop} {n : Nat} {news : List (Addr × Obj)}
    (J : Nat → List Value → List (Addr × Obj) → Prop) (h0 : J 0 [] news)
    (turn : ∀ i v ys nw I oI C oC D m₂ h tk (E' : Value → Shared → Prop), i < n → P i v → J i ys nw → LCg.NsObj oC m₂ → m₂ x = some v → Fr h₀ L h m → News h₀ L h ((I, oI) :: (C, oC) :: (D, LCg.lst ys) :: nw) → LCg.Off3 I C D nw → ((@Ne Nat I C) ∧ (@Ne Nat I D) ∧ (@Ne Nat C D)) →
      wpAny (model prog w) A (eval elt (compEnvC scope cl C env)) (LCg.CompEnd h₀ L m { s with heap := h, toks := tk } I oI C oC D (LCg.lst ys) S (fun y nw' => J (i + 1) (ys ++ [y]) nw')) E' { s with heap := h, toks := tk })
    (fin : ∀ ys nw, J n ys nw → Fin ys nw) : LCg.CompRest prog w A h₀ L m env elt x scope cl s S P Fin n 0 [] news := by
  have key : ∀ (j i : Nat) (ys : List Value) (nw : List (Addr × Obj)), i + j = n → J i ys nw → LCg.CompRest prog w A h₀ L m env elt x scope cl s S P Fin j i ys nw := by
    intro j
    induction j with
    | zero => intro i ys nw hi hJ; rw [show i = n by omega] at hJ; exact LCg.CompRest.zero (fin ys nw hJ)
    | succ j ih =>
      intro i ys nw hi hJ
      refine LCg.CompRest.succ fun v I oI C oC D m₂ h tk E' hv hC hx F N off ne => ?_
      refine wpAny_mono (turn i v ys nw I oI C oC D m₂ h tk E' (by omega) hv hJ hC hx F N off ne) (fun y s₂ hq => ?_) fun _ _ e => e
      obtain ⟨h', tk', nw', e, F', N', off', hS, hJ'⟩ := hq
      exact ⟨h', tk', nw', e, F', N', off', hS, ih (i + 1) _ _ (by omega) hJ'⟩
  exact key n 0 [] news (by omega) h0
end Mine
namespace Mine
def Hold (p : Prop) : Prop := p
theorem Hold.mk {p : Prop} (h : Hold p) : p := h
end Mine
namespace Mine
open PySem PySem.W PySem.Calls PyProof.Rows
theorem ones_weight : ∀ l : List Nat, ((l.map fun k => (⟨#[k]⟩ : Str)).map (·.length)).sum = l.length
  | [] => rfl
  | a :: r => by simp only [List.map_cons, List.sum_cons, ones_weight r, List.length_cons]; show 1 + r.length = r.length + 1; omega
theorem join_ones' {prog : Program} {w : World} {A : Around} {E : Value → Shared → Prop} {s : Shared} {D : Addr} {vs : List Value} {cs : List Nat} {t : Tok} {Q : Value → Shared → Prop} (hl : s.heap.IsList D vs.toArray) (hi : StrsAre vs (cs.map fun c => ⟨#[c]⟩)) (hc : cs.length ≤ 5000)
    (h : ∀ t' k, Q (.str ⟨cs.toArray⟩ t') { s with toks := k }) : wpAny (model prog w) A (call (.builtin "str.join") [.str (Str.ofString "") t, .ref D]) Q E s :=
  join_listW hl hi (by decide +kernel) (by rw [ones_weight, List.length_map]; omega) fun t' k => by
    have e : Txt.join (Str.ofString "") (cs.map fun c => ⟨#[c]⟩) = ⟨cs.toArray⟩ := by
      unfold Txt.join
      rw [show Str.ofString "" = ⟨#[]⟩ from rfl]
      first | exact join_ones cs | (rw [StrLaws.glued_eq_join]; exact join_ones cs)
    rw [e]; exact h t' k
end Mine
namespace Mine
open PySem PySem.W PySem.Calls PyProof.Rows
theorem getD_mem {ns : List Int} {i : Nat} (h : i < ns.length) : ns.getD i 0 ∈ ns := by
  rw [List.getD_eq_getElem?_getD, List.getElem?_eq_getElem h]; exact List.getElem_mem h
theorem ltr_of {c : Nat} (h : c ∈ (Str.ofString "dddoxX").cps.toList) : ∃ l : Ltr, l.str = ⟨#[c]⟩ := by
  have e : (Str.ofString "dddoxX").cps.toList = [100, 100, 100, 111, 120, 88] := by decide +kernel
  rw [e] at h
  simp only [List.mem_cons, List.not_mem_nil, or_false] at h
  rcases h with rfl | rfl | rfl | rfl | rfl | rfl
  · exact ⟨.d, by decide +kernel⟩
  · exact ⟨.d, by decide +kernel⟩
  · exact ⟨.d, by decide +kernel⟩
  · exact ⟨.o, by decide +kernel⟩
  · exact ⟨.x, by decide +kernel⟩
  · exact ⟨.X, by decide +kernel⟩
def fieldC (f : Int) : List Nat := if f = 0 then [49, 36] else if f = 1 then [50, 36] else if f = 2 then [51, 36] else []
def widthC (wd : Int) : List Nat := if wd = 1 then [49] else if wd = 5 then [53] else if wd = 12 then [49, 50] else if wd = 30 then [51, 48] else []
def precC (pr : Int) : List Nat := if pr = 0 then [46, 48] else if pr = 3 then [46, 51] else if pr = 9 then [46, 57] else []
end Mine
namespace Mine
open PySem PySem.W PySem.Calls PyProof.Rows
theorem str_small {prog : Program} {w : World} {A : Around} {E : Value → Shared → Prop} {s : Shared} {a : Int} {t : Tok} {Q : Value → Shared → Prop} (h0 : -1 ≤ a) (h1 : a ≤ 100) (h : Q (.str (Str.ofString (toString a)) s.toks) { s with toks := s.toks + 1 }) : wpAny (model prog w) A (call (.type "str") [.int a t]) Q E s := by
  refine P.str_of_int ?_ h
  by_cases h0' : a.natAbs = 0
  · rw [h0']; decide +kernel
  · have : a.natAbs.log2 < 7 := (Nat.log2_lt h0').mpr (by omega)
    omega
theorem mk_append (a b : List Nat) : (⟨a.toArray⟩ : Str) ++ ⟨b.toArray⟩ = ⟨(a ++ b).toArray⟩ := by
  refine Str.ext' ?_
  rw [Str.cps_append]; simp
theorem len_mk (a : List Nat) : (⟨a.toArray⟩ : Str).length = a.length := by simp [Str.length]
theorem fieldS {f : Int} (h0 : 0 ≤ f) (h1 : f ≤ 2) : Str.ofString (toString (f + 1)) ++ Str.ofString "$" = ⟨(fieldC f).toArray⟩ := by
  obtain rfl | rfl | rfl : f = 0 ∨ f = 1 ∨ f = 2 := by omega
  all_goals decide +kernel
theorem fieldN {f : Int} (h0 : ¬ 0 ≤ f) : Str.ofString "" = ⟨(fieldC f).toArray⟩ := by
  unfold fieldC
  rw [if_neg (fun q => h0 (by rw [q]; decide)), if_neg (fun q => h0 (by rw [q]; decide)), if_neg (fun q => h0 (by rw [q]; decide))]; rfl
theorem widthS {wd : Int} (h : wd ∈ [0, 0, 1, 5, 12, 30]) (h0 : 0 < wd) : Str.ofString (toString wd) = ⟨(widthC wd).toArray⟩ := by
  simp only [List.mem_cons, List.not_mem_nil, or_false] at h
  rcases h with rfl | rfl | rfl | rfl | rfl | rfl
  · exact absurd h0 (by decide)
  · exact absurd h0 (by decide)
  all_goals decide +kernel
theorem widthN {wd : Int} (h0 : ¬ 0 < wd) : Str.ofString "" = ⟨(widthC wd).toArray⟩ := by
  unfold widthC
  rw [if_neg (fun q => h0 (by rw [q]; decide)), if_neg (fun q => h0 (by rw [q]; decide)), if_neg (fun q => h0 (by rw [q]; decide)), if_neg (fun q => h0 (by rw [q]; decide))]; rfl
theorem precS {pr : Int} (h : pr ∈ [-1, -1, -1, 0, 3, 9]) (h0 : 0 ≤ pr) : Str.ofString "." ++ Str.ofString (toString pr) = ⟨(precC pr).toArray⟩ := by
  simp only [List.mem_cons, List.not_mem_nil, or_false] at h
  rcases h with rfl | rfl | rfl | rfl | rfl | rfl
  · exact absurd h0 (by decide)
  · exact absurd h0 (by decide)
  · exact absurd h0 (by decide)
  all_goals decide +kernel
theorem precN {pr : Int} (h0 : ¬ 0 ≤ pr) : Str.ofString "" = ⟨(precC pr).toArray⟩ := by
  unfold precC
  rw [if_neg (fun q => h0 (by rw [q]; decide)), if_neg (fun q => h0 (by rw [q]; decide)), if_neg (fun q => h0 (by rw [q]; decide))]; rfl
theorem lenT {f : Int} (h0 : -1 ≤ f) (h1 : f ≤ 2) : (Str.ofString (toString (f + 1))).length = 1 := by
  obtain rfl | rfl | rfl | rfl : f = -1 ∨ f = 0 ∨ f = 1 ∨ f = 2 := by omega
  all_goals decide +kernel
theorem lenW {wd : Int} (h : wd ∈ [0, 0, 1, 5, 12, 30]) : (Str.ofString (toString wd)).length ≤ 2 := by
  simp only [List.mem_cons, List.not_mem_nil, or_false] at h
  rcases h with rfl | rfl | rfl | rfl | rfl | rfl
  all_goals decide +kernel
theorem wd_rng {wd : Int} (h : wd ∈ [(0 : Int), 0, 1, 5, 12, 30]) : 0 ≤ wd ∧ wd ≤ 30 := by
  simp only [List.mem_cons, List.not_mem_nil, or_false] at h
  rcases h with rfl | rfl | rfl | rfl | rfl | rfl
  all_goals decide
theorem pr_rng {pr : Int} (h : pr ∈ [(-1 : Int), -1, -1, 0, 3, 9]) : -1 ≤ pr ∧ pr ≤ 9 := by
  simp only [List.mem_cons, List.not_mem_nil, or_false] at h
  rcases h with rfl | rfl | rfl | rfl | rfl | rfl
  all_goals decide
theorem lenP {pr : Int} (h : pr ∈ [-1, -1, -1, 0, 3, 9]) : (Str.ofString (toString pr)).length ≤ 2 := by
  simp only [List.mem_cons, List.not_mem_nil, or_false] at h
  rcases h with rfl | rfl | rfl | rfl | rfl | rfl
  all_goals decide +kernel
theorem len0 : (Str.ofString "").length = 0 := by decide +kernel
theorem lenDl : (Str.ofString "$").length = 1 := by decide +kernel
theorem lenDt : (Str.ofString ".").length = 1 := by decide +kernel
theorem lenL (l : Ltr) : l.str.length = 1 := by cases l <;> decide +kernel
theorem fieldC_len (f : Int) : (fieldC f).length ≤ 2 := by unfold fieldC; repeat' split
                                                           all_goals decide
theorem widthC_len (f : Int) : (widthC f).length ≤ 2 := by unfold widthC; repeat' split
                                                           all_goals decide
theorem precC_len (f : Int) : (precC f).length ≤ 2 := by unfold precC; repeat' split
                                                         all_goals decide
theorem str_mk (l : Ltr) : l.str = ⟨[l.code].toArray⟩ := l.str_code
end Mine
namespace Mine
open PySem PySem.W PySem.Calls PyProof.Rows
theorem textNN {f wd : Int} {x : Str} (h : ¬ 0 ≤ f) (h' : ¬ 0 < wd) : Str.ofString "" ++ x ++ Str.ofString "" = ⟨(fieldC f).toArray⟩ ++ x ++ ⟨(widthC wd).toArray⟩ := by rw [← fieldN h, ← widthN h']
end Mine
namespace Mine
open PySem PySem.W PySem.Calls PyProof.Rows
theorem news_drop3 {h₀ h : Heap} {L : Addr} {a b c : Addr × Obj} {r : List (Addr × Obj)} (N : News h₀ L h (a :: b :: c :: r)) : News h₀ L h (a :: b :: r) := fun p hp => N p (by
  rcases List.mem_cons.mp hp with rfl | hp
  · exact List.Mem.head _
  rcases List.mem_cons.mp hp with rfl | hp
  · exact List.Mem.tail _ (List.Mem.head _)
  exact List.Mem.tail _ (List.Mem.tail _ (List.Mem.tail _ hp)))
end Mine
end
section
set_option Elab.async false
set_option maxRecDepth 100000
set_option linter.unusedVariables false
set_option pp.maxSteps 400
namespace Mine
open PySem PySem.W PySem.Spec PySem.Calls PyProof.Rows Builtin
theorem off_X1 : True := by
  w_top off
  trivial
abbrev bmE : List Value := [.type "Exception", .type "BaseException", .type "object"]
abbrev eObj (C t : Addr) (d : Option Addr) : Obj := { cls := .ref C, dict := d, data := .fields #[.ref t, .none, .none, .none, .bool false, .none] }
abbrev tupObj (vs : List Value) : Obj := { cls := .type "tuple", data := .seq vs.toArray }
section
variable {prog : Program} {w : World} {A : Around} {E : Value → Shared → Prop} {R : Result → Shared → Prop} {h : Heap} {g : Array GenState} {d : Drawn} {t : Nat} {os : OsState}
variable {nm q : Str} {C N : Addr} {bs : List Value} {hdct : Bool} {sn : List Str} {sub : List Value} {ab : Bool} {col : Option Bool} {dd : Option Addr} {k0 k1 k2 k3 k5 : Option Value}
set_option maxHeartbeats 4000000 in
theorem makeE_core {rest : List Value} {fI : Addr} (hC : h.get? C = some (excClassObj nm q C N bs bmE hdct sn sub ab col dd k0 k1 k2 k3 k5 "Exception.__new__"))
    (hi : Looks (model prog w) h (typeLookup (.ref C) "__init__") (some (.ref fI))) (hb : ∀ self, Looks (model prog w) h (bindSpecial (.ref fI) self) (.ref fI, [self])) (hrest : rest.length ≤ sizeLine)
    (hq : codeAny (model prog w) (A.under (.builtin "type.__call__" ⟨.ref C :: rest, []⟩)) (.call (.ref fI) ⟨.ref (h.objs.size + 1) :: rest, []⟩) (InitBack (h.objs.size + 1) R) ⟨(h.push (tupObj rest)).push (eObj C h.objs.size none), g, d, t, os⟩) :
    codeAny (model prog w) A (.call (.ref C) ⟨rest, []⟩) R ⟨h, g, d, t, os⟩ := by
  have F := PySem.F.excBase_Exception
  have f1 := tc_lookup
  have f2 := tc_bind (.ref C)
  have hT : (⟨h, g, d, t, os⟩ : Shared).TypeIs (.ref C) "type" := ⟨_, hC, rfl⟩
  refine codeAny_of_tree ?_
  show wpAny _ _ (callAny (.ref C) _) _ _ _
  repeat (any_goals (first | assumption | with_reducible refine wpAny_loadPart_at hC ?_ | wp_step))
  refine ⟨rfl, ?_⟩
  refine codeAny_call_builtin_at (Code.quiet_builtin _ (by decide +kernel)) entry_typeCall (wpAny_check_type_call_sub hC ?_)
  repeat (first | with_reducible refine wpAny_loadPart_at hC ?_ | with_reducible refine wpAny_madeBy_exc hC ?_ | wp_step)
  refine codeAny_call_builtin_code (Code.quiet_builtin _ F.quiet) (wpAny_check_new_sub F hC ?_)
  refine codeAny_exc_new_sub F hC ?_ hrest
  show wpAny _ _ _ _ _ _
  have k : ∀ b o, h.get? b = some o → ((h.push (tupObj rest)).push (eObj C h.objs.size none)).get? b = some o := fun b o e => Heap.get?_push_of_some _ (Heap.get?_push_of_some _ e)
  have hC₁ := k _ _ hC
  have hget : ((h.push (tupObj rest)).push (eObj C h.objs.size none)).get? (h.objs.size + 1) = some (eObj C h.objs.size none) := by heap_get
  have hcC : (Value.ref C :: bmE).contains (.ref C) = true := by simp
  unfold isInstance
  repeat (first | with_reducible refine wpAny_loadPart_at hget ?_ | wp_step)
  show wpAny _ _ (isSubtype (.ref C) (.ref C)) _ _ _
  refine wpAny_isSubtype_exc hC₁ ?_
  rw [hcC]
  have i1 := hi.keeps k
  have b1 := (hb (.ref (h.objs.size + 1))).keeps k
  have t1 : Looks (model prog w) ((h.push (tupObj rest)).push (eObj C h.objs.size none)) (typeOf (.ref (h.objs.size + 1))) (.ref C) := (Looks.ld hget).andThen .now
  simp only [Bool.not_true, Bool.false_eq_true, if_false]
  show wpAny _ _ _ _ _ ⟨(h.push (tupObj rest)).push (eObj C h.objs.size none), g, d, t, os⟩
  unfold callSpecial? specialOf
  repeat (first | with_reducible refine wpAny_call ?_ | lk)
  refine codeAny_mono hq fun r s' z => ?_
  rcases r with e | (v | _ | _ | _) <;> first | exact z | exact z.elim | skip
  obtain ⟨rfl, z⟩ := z
  exact wpAny_pure (wpAny_pure z)
end
end Mine
end
section
set_option Elab.async false
set_option maxRecDepth 100000
set_option linter.unusedVariables false
set_option pp.maxSteps 400
namespace Mine
open PySem PySem.W PySem.Spec PySem.Calls PyProof.Rows Builtin
def DK (h h' : Heap) : Prop := ∀ b o, h.get? b = some o → ∃ o', h'.get? b = some o' ∧ o'.dict = o.dict
theorem DK.refl (h : Heap) : DK h h := fun _ o e => ⟨o, e, rfl⟩
theorem DK.trans {h h' h'' : Heap} (x : DK h h') (y : DK h' h'') : DK h h'' := fun b o e =>
  let ⟨o', e', q⟩ := x b o e; let ⟨o'', e'', q'⟩ := y b o' e'; ⟨o'', e'', q'.trans q⟩
theorem DK.of_keeps {h h' : Heap} (k : ∀ b o, h.get? b = some o → h'.get? b = some o) : DK h h' := fun b o e => ⟨o, k b o e, rfl⟩
def KD {α : Type} (t : Sem α) : Prop := ∀ M Γ (Q : α → Pos → Shared → Prop) E p s, Sem.wp M Γ t Q E p s → Sem.wp M Γ t (fun a p' s' => Q a p' s' ∧ DK s.heap s'.heap) E p s
theorem kd_pure {α : Type} (a : α) : KD (pure a : Sem α) := fun M Γ Q E p s h => by
  rw [Sem.wp_pure'] at h ⊢
  exact ⟨h, DK.refl _⟩
theorem kd_uns {α : Type} (w : String) : KD (unsupported w : Sem α) := fun M Γ Q E p s h => by
  unfold unsupported at h
  rw [Sem.wp_unsupported] at h
  exact h.elim
theorem kd_throw {α : Type} (e : Value) : KD (throw e : Sem α) := fun M Γ Q E p s h => by
  rw [Sem.wp_throw] at h ⊢
  exact h
theorem kd_bind {α β : Type} {m : Sem α} {f : α → Sem β} (hm : KD m) (hf : ∀ a, KD (f a)) : KD (m >>= f) := fun M Γ Q E p s h => by
  rw [Sem.wp_bind'] at h ⊢
  refine Sem.wp_mono M Γ m ?_ (fun _ _ _ e => e) p s (hm M Γ _ E p s h)
  intro a p' s' ⟨h1, h2⟩
  refine Sem.wp_mono M Γ (f a) ?_ (fun _ _ _ e => e) p' s' (hf a M Γ _ E p' s' h1)
  intro b p'' s'' ⟨h3, h4⟩
  exact ⟨h3, h2.trans h4⟩
theorem kd_load (a : Addr) : KD (load a) := fun M Γ Q E p s h => by
  unfold load at h ⊢
  rw [Sem.wp_load] at h ⊢
  obtain ⟨o, ho, h⟩ := h
  refine ⟨o, ho, ?_⟩
  rw [Sem.wp_pure] at h ⊢
  exact ⟨h, DK.refl _⟩
theorem kd_stack : KD stack := fun M Γ Q E p s h => by
  unfold stack at h ⊢
  rw [Sem.wp_stack] at h ⊢
  rw [Sem.wp_pure] at h ⊢
  exact ⟨h, DK.refl _⟩
theorem kd_alloc (o : Obj) : KD (alloc o) := fun M Γ Q E p s h => by
  unfold alloc at h ⊢
  rw [Sem.wp_alloc] at h ⊢
  rw [Sem.wp_pure] at h ⊢
  exact ⟨h, DK.of_keeps fun b o e => Heap.get?_push_of_some _ e⟩
theorem kd_update (a : Addr) (f : Obj → Obj) (hf : ∀ o, (f o).dict = o.dict ∧ (f o).isFreed = o.isFreed) : KD (update a f) := fun M Γ Q E p s h => by
  unfold update at h ⊢
  rw [Sem.wp_update] at h ⊢
  obtain ⟨ho, h⟩ := h
  refine ⟨ho, ?_⟩
  rw [Sem.wp_pure] at h ⊢
  refine ⟨h, fun b o e => ?_⟩
  by_cases q : a = b
  · subst q
    refine ⟨f o, Heap.get?_update_self f e ?_, (hf o).1⟩
    rw [(hf o).2]
    exact (Heap.get?_some_iff.mp e).2
  · exact ⟨o, (Heap.get?_update_other _ _ q).trans e, rfl⟩
theorem mapFields_ok (g : Array Value → Array Value) (o : Obj) : (Obj.mapFields g o).dict = o.dict ∧ (Obj.mapFields g o).isFreed = o.isFreed := by
  obtain ⟨c, d, dt, sl⟩ := o
  cases dt <;> exact ⟨rfl, rfl⟩
theorem kd_fieldsOf (v : Value) : KD (fieldsOf v) := by
  unfold fieldsOf
  split
  · refine kd_bind (kd_load _) fun o => ?_
    split
    · exact kd_pure _
    · exact kd_uns _
  · exact kd_uns _
theorem kd_field (v : Value) (i : Nat) : KD (field v i) := by
  unfold field
  refine kd_bind (kd_fieldsOf _) fun vs => ?_
  split
  · exact kd_pure _
  · exact kd_uns _
theorem kd_setField (v : Value) (i : Nat) (x : Value) : KD (setField v i x) := by
  unfold setField
  split
  · unfold updateField
    refine kd_bind (kd_load _) fun o => ?_
    split
    · split
      · exact kd_update _ _ (mapFields_ok _)
      · exact kd_uns _
    · exact kd_uns _
  · exact kd_uns _
theorem kd_setFlight (e : Value) (f : Option Addr) : KD (setFlight e f) := by
  unfold setFlight
  refine kd_bind (kd_field _ _) fun tb => ?_
  split
  · exact kd_setField _ _ _
  · exact kd_pure _
theorem kd_place (f : Addr) (b : Bool) : KD (entryPlaceOf f b) := by
  unfold entryPlaceOf
  refine kd_bind kd_stack fun acts => ?_
  split
  · exact kd_pure _
  · exact kd_pure _
theorem kd_frameEnvs : KD frameEnvs := by
  unfold frameEnvs
  exact kd_bind kd_stack fun _ => kd_pure _
theorem kd_behind (env : Env) (l : List Env) : KD (behindIsImport env l) := by
  unfold behindIsImport
  split
  · exact kd_pure _
  · split
    · exact kd_pure _
    · exact kd_bind (kd_field _ _) fun _ => kd_pure _
theorem kd_under : KD underTheClaimsCaller := by
  unfold underTheClaimsCaller
  exact kd_bind kd_stack fun _ => kd_pure _
theorem kd_keptBack (env : Env) (b : Bool) (l : List Env) : KD (keptBack env b l) := by
  unfold keptBack
  split
  · split
    · exact kd_pure _
    · exact kd_bind kd_under fun _ => kd_pure _
  · exact kd_pure _
theorem kd_ready : ∀ (l : List Env), KD (readyFrames l)
  | [] => by unfold readyFrames; exact kd_pure _
  | env :: outer => by
    unfold readyFrames
    split
    · refine kd_bind (kd_load _) fun o => ?_
      split
      · exact kd_pure _
      · refine kd_bind (kd_behind _ _) fun i => kd_bind (kd_keptBack _ _ _) fun bk => kd_bind (kd_update _ _ fun o => ⟨rfl, ?_⟩) fun _ => kd_ready outer
        obtain ⟨c, d, dt, sl⟩ := o
        cases dt <;> rfl
    · exact kd_uns _
theorem kd_frameObject : ∀ (l : List Env), KD (frameObject l)
  | [] => by unfold frameObject; exact kd_pure _
  | env :: outer => by
    unfold frameObject
    exact kd_bind (kd_ready _) fun _ => kd_pure _
theorem kd_frameOf (env : Env) : KD (PySem.frameOf env) := by
  unfold PySem.frameOf
  refine kd_bind kd_frameEnvs fun _ => kd_bind (kd_frameObject _) fun r => ?_
  split
  · exact kd_pure _
  · exact kd_uns _
theorem kd_entry (a b c d e : Value) (pl : List Value) : KD (EntryCells.newEntry a b c d e pl) := by
  unfold EntryCells.newEntry newFields newObj newObjAsIs
  dsimp only
  split <;> split <;> first | exact kd_bind (kd_uns _) fun _ => kd_bind (kd_alloc _) fun _ => kd_pure _ | exact kd_bind (kd_alloc _) fun _ => kd_pure _
theorem kd_note (e : Value) (env : Env) : KD (noteFrame e env) := by
  have last : ∀ head f, KD (do let a ← PySem.frameOf env; let pl ← entryPlaceOf f (head != Value.none); let b ← EntryCells.newEntry head a .none (rawInt f) .none pl; setField e 1 b) := fun head f =>
    kd_bind (kd_frameOf _) fun _ => kd_bind (kd_place _ _) fun _ => kd_bind (kd_entry _ _ _ _ _ _) fun _ => kd_setField _ _ _
  unfold noteFrame
  split
  · refine kd_bind (kd_field _ _) fun head => ?_
    split
    · refine kd_bind (kd_field _ _) fun x => ?_
      split
      · exact kd_pure _
      · exact kd_bind (kd_setField _ _ _) fun _ => last _ _
    · exact last _ _
  · exact kd_uns _
theorem kd_leaving (env : Env) (e : Value) : KD (leaving env e) := by
  unfold leaving
  exact kd_bind (kd_note _ _) fun _ => kd_setFlight _ _
theorem kd_any {α : Type} {t : Sem α} {M : Model} {A : Around} {E : Value → Shared → Prop} {Q Q' : α → Shared → Prop} {s : Shared} (k : KD t) (h : wpAny M A t Q E s) (hQ : ∀ a s', Q a s' → DK s.heap s'.heap → Q' a s') : wpAny M A t Q' E s := fun Γ p hΓ =>
  Sem.wp_mono M Γ t (fun a _ s' z => hQ a s' z.1 z.2) (fun _ _ _ e => e) p s (k M Γ _ _ p s (h Γ p hΓ))
end Mine
end
section
set_option Elab.async false
set_option maxRecDepth 100000
set_option linter.unusedVariables false
set_option pp.maxSteps 400
namespace Mine
open PySem PySem.W PySem.Spec PySem.Calls PyProof.Rows Builtin
def RaisedD (base : Heap) (l : List Env) (e d : Addr) (sv : Value) (news : List (Addr × Obj)) (h : Heap) : Prop :=
  (∃ B a0, base.StaysIn B ∧ (∀ q ∈ news, B.get? q.1 = some q.2 ∧ base.get? q.1 = none) ∧ Heap.FlyingW B l e (.ref 31) a0 h) ∧ (∃ oe, h.get? e = some oe ∧ oe.dict = some d) ∧ (∃ mA, h.Ns d mA ∧ mA "symbol" = some sv) ∧ base.get? d = none
theorem dictOf_dk {h h' : Heap} {e d : Addr} (x : ∃ oe, h.get? e = some oe ∧ oe.dict = some d) (k : DK h h') : ∃ oe, h'.get? e = some oe ∧ oe.dict = some d :=
  let ⟨oe, ho, hd⟩ := x; let ⟨o', h', q⟩ := k e oe ho; ⟨o', h', q.trans hd⟩
theorem symOf_up {h h' : Heap} {d : Addr} {sv : Value} (x : ∃ mA, h.Ns d mA ∧ mA "symbol" = some sv) (k : h.UpToSlots h') : ∃ mA, h'.Ns d mA ∧ mA "symbol" = some sv :=
  let ⟨mA, n, q⟩ := x; ⟨mA, k.ns n, q⟩
section
variable {M : Model} {A : Around} {E : Value → Shared → Prop} {s' : Shared} {base g g₂ h : Heap} {outer : List Env} {L a e d : Addr} {m : Str → Option Value} {name : Str} {scope : Scope} {cd : Value} {Q : Unit → Shared → Prop} {news : List (Addr × Obj)} {sv : Value}
theorem leave_raiseD {oe : Obj} {vs : Array Value} {a0 : Value} (K : Below A base outer g) (F : Fr g L s'.heap m) (hl : ∀ q ∈ news, s'.heap.get? q.1 = some q.2 ∧ base.get? q.1 = none ∧ q.1 ∉ (envOf name scope L a cd :: outer).filterMap (·.frame) ∧ q.1 ≠ e) (he : s'.heap.get? e = some oe) (hc : oe.cls = .ref 31) (hd : oe.data = .fields vs)
    (h1 : vs[1]? = some .none) (h0 : vs[0]? = some a0) (hdd : oe.dict = some d) (hen : g.get? e = none) (hs : ∃ mA, s'.heap.Ns d mA ∧ mA "symbol" = some sv) (hdn : g.get? d = none)
    (hQ : ∀ h', RaisedD base outer e d sv news h' → g.UpToSlots h' → Q () { s' with heap := h' }) (hk : scope.kind = .function) :
    wpAny M (A.deeper (envOf name scope L a cd)) (leaving (envOf name scope L a cd) (.ref e)) Q E s' := by
  have K' := K.push (name := name) (a := a) (cd := cd) F hk
  have bn : base.get? e = none := fresh_of_stays K.stays hen
  have hin : ∀ env ∈ (envOf name scope L a cd :: outer), ∀ b, env.frame = some b → b ∈ e :: (envOf name scope L a cd :: outer).filterMap (·.frame) := fun env he b hb => .tail _ (List.mem_filterMap.mpr ⟨env, he, hb⟩)
  have st : base.StaysIn (hideAll s'.heap (e :: (envOf name scope L a cd :: outer).filterMap (·.frame))) := fun b o q => hideAll_get _ (K'.stays b o q) fun hm => by
    rcases List.mem_cons.mp hm with rfl | hm
    · rw [bn] at q; cases q
    · rw [(K'.frames.mem hm).1] at q; cases q
  have hl : ∀ q ∈ news, (hideAll s'.heap (e :: (envOf name scope L a cd :: outer).filterMap (·.frame))).get? q.1 = some q.2 ∧ base.get? q.1 = none := fun q hq => by
    obtain ⟨h1, h2, h3, h4⟩ := hl q hq
    refine ⟨hideAll_get _ h1 fun hm => ?_, h2⟩
    rcases List.mem_cons.mp hm with hm | hm
    · exact h4 hm
    · exact h3 hm
  have hB : (hideAll s'.heap (e :: (envOf name scope L a cd :: outer).filterMap (·.frame))).get? e = none := hideAll_none _ (.head _)
  have core := wpAny_leaving_firstW (M := M) (E := E) (env := envOf name scope L a cd) (L := L) (Q := fun _ s'' => Heap.LeftW (hideAll s'.heap (e :: (envOf name scope L a cd :: outer).filterMap (·.frame))) (envOf name scope L a cd :: outer) e oe.cls a0 s'.heap s''.heap ∧ s'' = { s' with heap := s''.heap }) K'.stack
    (funFrames_hide K'.frames hin) rfl he (fun b o q => of_hideAll _ q) hB hd h1 h0 fun h' hL => ⟨hL, rfl⟩
  refine kd_any (kd_leaving _ _) core fun _ s'' ⟨hL, hs''⟩ k => ?_
  obtain ⟨k1, ⟨_, _, k2⟩, k3, k4⟩ := hL
  rw [hs'']
  rw [hc] at k3
  exact hQ _ ⟨⟨_, a0, st, hl, k1, hB, k2, k3⟩, dictOf_dk ⟨oe, he, hdd⟩ k, symOf_up hs k4, fresh_of_stays K.stays hdn⟩ ((Heap.UpToSlots.of_keeps F.keep).trans k4)
theorem leave_onD (K : Below A base outer g) (F : Fr g L g₂ m) (R : RaisedD base (envOf name scope L a cd :: outer) e d sv news s'.heap) (hsm : g₂.UpToSlots s'.heap)
    (hQ : ∀ h', RaisedD base outer e d sv news h' → g.UpToSlots h' → Q () { s' with heap := h' }) :
    wpAny M (A.deeper (envOf name scope L a cd)) (leaving (envOf name scope L a cd) (.ref e)) Q E s' := by
  obtain ⟨⟨B, a0, hB, hl, hfl⟩, hd, hs, hdn⟩ := R
  have core := wpAny_leaves_onW (M := M) (E := E) (Q := fun _ s'' => (Heap.FlyingW B outer e (.ref 31) a0 s''.heap ∧ s'.heap.UpToSlots s''.heap) ∧ s'' = { s' with heap := s''.heap }) (Around.frames_deeper K.stack) rfl hfl fun h' x1 x2 => ⟨⟨x1, x2⟩, rfl⟩
  refine kd_any (kd_leaving _ _) core fun _ s'' ⟨⟨x1, x2⟩, hs''⟩ k => ?_
  rw [hs'']
  exact hQ _ ⟨⟨B, a0, hB, hl, x1⟩, dictOf_dk hd k, symOf_up hs x2, hdn⟩ ((Heap.UpToSlots.of_keeps F.keep).trans (hsm.trans x2))
end
section
variable {M : Model} {A : Around} {E : Value → Shared → Prop} {env : Env}
variable {nm q : Str} {C N : Addr} {bs bm : List Value} {hdct : Bool} {sn : List Str} {sub : List Value} {ab : Bool} {col : Option Bool} {dd : Option Addr} {k0 k1 k2 k3 k5 : Option Value} {newId : String}
theorem raise_obj {s : Shared} {x : Sem Value} {Q : Flow → Shared → Prop} (hbase : bm.contains (.type "BaseException") = true) (hh : A.handled = none)
    (h : wpAny M A x (fun v s₁ => ∃ e oe vs, v = .ref e ∧ s₁.heap.get? C = some (excClassObj nm q C N bs bm hdct sn sub ab col dd k0 k1 k2 k3 k5 newId) ∧
      s₁.heap.get? e = some oe ∧ oe.cls = .ref C ∧ oe.data = .fields vs ∧ vs[1]? = some .none ∧ E (.ref e) s₁) E s) :
    wpAny M A (raiseStmt env (some x) none) Q E s := by
  have hcB : (Value.ref C :: bm).contains (.type "BaseException") = true := by rw [List.contains_cons, hbase, Bool.or_true]
  unfold raiseStmt
  refine wpAny_bind (wpAny_mono h (fun v s₁ h₁ => ?_) fun _ _ x => x)
  obtain ⟨e, oe, vs, rfl, hC, he, hcl, hd, h1, hE⟩ := h₁
  obtain ⟨oc, od, odt, osl⟩ := oe
  dsimp only at hcl hd
  subst hcl hd
  obtain ⟨hp, g, d, tk, os⟩ := s₁
  repeat (first | with_reducible refine wpAny_loadPart_at he ?_ | with_reducible refine wpAny_loadPart_at hC ?_ | (with_reducible refine wpAny_isSubtype_exc hC ?_; rw [hcB]) | with_reducible refine wpAny_field he rfl h1 ?_ | wp_step)
  exact wpAny_raiseNew_none hh hE
end
end Mine
end
section
set_option Elab.async false
set_option maxRecDepth 100000
set_option linter.unusedVariables false
set_option pp.maxSteps 600
namespace Mine
open PySem PySem.W PySem.Spec PySem.Calls PyProof.Rows Builtin
theorem off_X4a : True := by
  w_top off
  trivial
local macro_rules | `(tactic| walk_at "none") => `(tactic| skip)

theorem isEq_true {a b : List Value} (h : (a == b) = true) : a = b := beq_iff_eq.mp h
def clsEIn (K : Frag) (C : Addr) : Bool := match K.lookup C with
  | some ⟨.type "type", _, .cls cd, sl⟩ => (match cd.mro, sl.toList with
    | .ref C' :: bm, [_, _, _, _, some (.builtin n), _] => C' == C && n == "Exception.__new__" && !cd.hasDel && cd.hasDict && bm == bmE && nsOkIn K cd.ns && nsIn K cd.ns "__setattr__" == some none && nsIn K cd.ns "symbol" == some none && nsIn K cd.ns "data" == some none && nsIn K cd.ns "__getattribute__" == some none && nsIn K cd.ns "__getattr__" == some none
    | _, _ => false)
  | _ => false
def ClsE (h : Heap) (C : Addr) : Prop := ∃ nm q N bs sn sub ab col dd k0 k1 k2 k3 k5 mN, h.get? C = some (excClassObj nm q C N bs bmE true sn sub ab col dd k0 k1 k2 k3 k5 "Exception.__new__") ∧ h.Ns N mN ∧
  mN "__setattr__" = none ∧ mN "symbol" = none ∧ mN "data" = none ∧ mN "__getattribute__" = none ∧ mN "__getattr__" = none
theorem clsE_of {K : Frag} {h : Heap} {C : Addr} (X : K.In h) (q : clsEIn K C = true) : ClsE h C := by
  unfold clsEIn at q
  split at q
  · rename_i dd cd sl ho
    split at q
    · rename_i C' bm k0 k1 k2 k3 n k5 hm hs
      simp only [Bool.and_eq_true, beq_iff_eq, Bool.not_eq_true'] at q
      obtain ⟨⟨⟨⟨⟨⟨⟨⟨⟨⟨rfl, rfl⟩, hdel⟩, hdi⟩, hbm⟩, hok⟩, n1⟩, n2⟩, n3⟩, n4⟩, n5⟩ := q
      obtain ⟨nm, bs, mro, ns, qn, hd, sn, sub, ab, col, del⟩ := cd
      dsimp only at hm hdel hok hdi n1 n2 n3 n4 n5
      subst hm hdel hdi hbm
      have hsl : sl = #[k0, k1, k2, k3, some (.builtin "Exception.__new__"), k5] := by
        obtain ⟨l⟩ := sl
        simp only at hs
        rw [hs]
      subst hsl
      exact ⟨nm, qn, ns, bs, sn, sub, ab, col, dd, k0, k1, k2, k3, k5, _, X _ _ ho, .of_isNs (isNs_of_in X hok), nsMap_none_of_in X hok n1, nsMap_none_of_in X hok n2, nsMap_none_of_in X hok n3, nsMap_none_of_in X hok n4, nsMap_none_of_in X hok n5⟩
    · cases q
  · cases q
theorem ClsE.keeps {h h' : Heap} {C : Addr} (x : ClsE h C) (k : ∀ b o, h.get? b = some o → h'.get? b = some o) : ClsE h' C := by
  obtain ⟨nm, q, N, bs, sn, sub, ab, col, dd, k0, k1, k2, k3, k5, mN, h1, h2, r⟩ := x
  exact ⟨nm, q, N, bs, sn, sub, ab, col, dd, k0, k1, k2, k3, k5, mN, k _ _ h1, h2.keeps k, r⟩
theorem ClsE.elim {h : Heap} {C : Addr} (x : ClsE h C) {G : Prop} (k : ∀ (nm q : Str) (N : Addr) (bs : List Value) (sn : List Str) (sub : List Value) (ab : Bool) (col : Option Bool) (dd : Option Addr) (k0 k1 k2 k3 k5 : Option Value) (mN : Str → Option Value),
    h.get? C = some (excClassObj nm q C N bs bmE true sn sub ab col dd k0 k1 k2 k3 k5 "Exception.__new__") → h.Ns N mN → mN "__setattr__" = none → mN "symbol" = none → mN "data" = none → mN "__getattribute__" = none → mN "__getattr__" = none → G) : G := by
  obtain ⟨nm, q, N, bs, sn, sub, ab, col, dd, k0, k1, k2, k3, k5, mN, h1, h2, n1, n2, n3, n4, n5⟩ := x
  exact k _ _ _ _ _ _ _ _ _ _ _ _ _ _ _ h1 h2 n1 n2 n3 n4 n5
section
variable {prog : Program} {w : World} {A : Around} {E : Value → Shared → Prop} {h : Heap} {g : Array GenState} {d : Drawn} {t : Nat} {os : OsState}
open Builtin.ObjectAttr
theorem first_entry {nm q : Str} {C N x : Addr} {bs bm : List Value} {sn : List Str} {sub : List Value} {ab : Bool} {col : Option Bool} {dd : Option Addr} {k0 k1 k2 k3 k5 : Option Value} {B newId sa owner : String} {mN : Str → Option Value} {name : Str} {v : Value} {o : Obj} {tk : Tok} {Q : Fin → Shared → Prop} (SF : StoreFacts B bm sa owner)
    (hC : h.get? C = some (excClassObj nm q C N bs bm true sn sub ab col dd k0 k1 k2 k3 k5 newId)) (hn : h.Ns N mN) (hna : mN name = none) (hB : typeLookup (.type B) name = pure none)
    (hx : h.get? x = some o) (hc : o.cls = .ref C) (hdn : o.dict = none) (hnc : ∀ c, o.data ≠ .cls c)
    (hq : ∀ h' tk', h'.get? x = some { o with dict := some h.objs.size } → h'.Ns1 h.objs.size (fun y => if y = name then some v else none) → (∀ b o, b ≠ x → h.get? b = some o → h'.get? b = some o) → Q (.done (.ret .none)) ⟨h', g, d, tk', os⟩) :
    wpAny (model prog w) A (Builtin.«object.__setattr__» ⟨[.ref x, .str name tk, v], []⟩) Q E ⟨h, g, d, t, os⟩ := by
  have hpass := SF.passes (.ref x)
  have hxs : x ≠ h.objs.size := Nat.ne_of_lt (Heap.lt_size hx)
  have hx₁ : (h.push { cls := .type "dict", data := .dict #[] }).get? x = some o := Heap.get?_push_of_some _ hx
  have hgd : ((h.push { cls := .type "dict", data := .dict #[] }).update x fun o => { cls := o.cls, dict := some h.objs.size, data := o.data, slots := o.slots }).get? h.objs.size = some { cls := .type "dict", data := .dict #[] } :=
    (Heap.get?_update_ne _ _ _ _ hxs.symm).trans (Heap.get?_push_at rfl rfl)
  have hx₂ : ((h.push { cls := .type "dict", data := .dict #[] }).update x fun o => { cls := o.cls, dict := some h.objs.size, data := o.data, slots := o.slots }).get? x = some { cls := o.cls, dict := some h.objs.size, data := o.data, slots := o.slots } := by
    refine Heap.get?_update_self _ hx₁ ?_
    have hfr := (Heap.get?_some_iff.mp hx).2
    obtain ⟨oc, od, odt, osl⟩ := o
    cases odt <;> first | rfl | exact hfr
  have fin : ∀ tk1, wpAny (model prog w) A (storeInDict h.objs.size (.str name tk) name v) Q E ⟨((h.push { cls := .type "dict", data := .dict #[] }).update x fun o => { cls := o.cls, dict := some h.objs.size, data := o.data, slots := o.slots }), g, d, tk1, os⟩ := by
    intro tk1
    unfold storeInDict newKeyGuard
    refine wpAny_bind (wpAny_pure (wpAny_bind (wpAny_nsSet1 (Heap.Ns1.of_empty ⟨_, #[], _, hgd, rfl, fun e he => absurd he (by simp), fun _ => rfl⟩) fun h' hn' hs => ?_)))
    obtain ⟨oD, esD, epD, hoD, hdD, hcD⟩ := hn'.count (Within.cons name v Within.nil)
    refine wpAny_bind (wpAny_lookBehind hoD (by rw [hdD]; exact pastItsLine_dict (Nat.le_trans hcD (by rw [List.length_cons, List.length_nil, sizeLine_eq]; omega))) (wpAny_pure ?_))
    refine hq h' _ ((hs.2 x hxs).trans hx₂) hn' fun b ob hbx hb => ?_
    exact (hs.2 b (Nat.ne_of_lt (Heap.lt_size hb))).trans ((Heap.get?_update_ne _ _ _ _ hbx).trans (Heap.get?_push_of_some _ hb))
  unfold Builtin.«object.__setattr__»
  repeat (first | rw [refuse_eq] | (rw [refuseLoop_ref, hpass]) | (with_reducible refine wpAny_loadPart_at hx ?_; rw [hc]) | with_reducible refine wpAny_mroOf_exc hC ?_ | (with_reducible refine wpAny_typeLookup_exc hC hn SF.mro hB ?_; rw [hna]) | wp_step)
  rw [hdn, if_neg (by simp [typeHasDict])]
  split
  · rename_i hcd
    cases hcd
  split
  · rename_i c hcd
    exact absurd hcd (hnc c)
  exact wpAny_bind (wpAny_alloc' (wpAny_bind (wpAny_update' hx₁ (wpAny_pure (fin _)))))
set_option maxHeartbeats 1000000 in
theorem set_first {nm q : Str} {C N x : Addr} {bs bm : List Value} {sn : List Str} {sub : List Value} {ab : Bool} {col : Option Bool} {dd : Option Addr} {k0 k1 k2 k3 k5 : Option Value} {B newId sa owner : String} {mN : Str → Option Value} {name : Str} {v : Value} {o : Obj} {Q : Unit → Shared → Prop} (SF : StoreFacts B bm sa owner)
    (hC : h.get? C = some (excClassObj nm q C N bs bm true sn sub ab col dd k0 k1 k2 k3 k5 newId)) (hn : h.Ns N mN) (hns : mN "__setattr__" = none) (hna : mN name = none) (hB : typeLookup (.type B) name = pure none)
    (hx : h.get? x = some o) (hc : o.cls = .ref C) (hdn : o.dict = none) (hnc : ∀ c, o.data ≠ .cls c)
    (hq : ∀ h' tk', h'.get? x = some { o with dict := some h.objs.size } → h'.Ns1 h.objs.size (fun y => if y = name then some v else none) → (∀ b o, b ≠ x → h.get? b = some o → h'.get? b = some o) → Q () ⟨h', g, d, tk', os⟩) :
    wpAny (model prog w) A (setAttr (.ref x) name v) Q E ⟨h, g, d, t, os⟩ := by
  have f3 := SF.slot.bind (.ref x)
  unfold setAttr callSpecial? specialOf
  repeat (any_goals (first | assumption | (with_reducible refine wpAny_loadPart_at hx ?_; rw [hc]) | (with_reducible refine wpAny_typeLookup_exc hC hn SF.mro SF.slot.lookup ?_; rw [hns]) | wp_step))
  refine codeAny_call_builtin SF.slot.plain SF.entry (wpAny_check_sa SF hC hx hc (first_entry SF hC hn hna hB hx hc hdn hnc fun h' tk' x1 x2 x3 => ?_))
  exact wpAny_pure (wpAny_pure (hq h' tk' x1 x2 x3))
end

theorem fr_but {g h h' : Heap} {L : Addr} {m : Str → Option Value} {as : List Addr} (F : Fr g L h m) (k : GSub h h' as) (nL : L ∉ as) (ng : ∀ a ∈ as, g.get? a = none) : Fr g L h' m := by
  refine ⟨?_, fun b o e => k b o (F.keep b o e) (fun q => by rw [ng b q] at e; cases e), F.above⟩
  obtain ⟨o, es, ep, ho, r⟩ := F.ns
  exact ⟨o, es, ep, k _ _ ho nL, r⟩
theorem lt_of_ns {h : Heap} {L : Addr} {m : Str → Option Value} (n : h.Ns L m) : L < h.objs.size := by
  obtain ⟨o, es, ep, ho, r⟩ := n
  exact Heap.lt_size ho
theorem none_back {g h : Heap} {d : Addr} (k : ∀ b o, g.get? b = some o → h.get? b = some o) (e : h.get? d = none) : g.get? d = none := by
  cases q : g.get? d with
  | none => rfl
  | some o => have := k d o q; rw [e] at this; cases this
theorem none_of_size {g h : Heap} (k : ∀ b o, g.get? b = some o → h.get? b = some o) : g.get? h.objs.size = none := by
  cases q : g.get? h.objs.size with
  | none => rfl
  | some o => exact absurd (Heap.lt_size (k _ _ q)) (Nat.lt_irrefl _)
theorem sym_none : typeLookup (.type "Exception") "symbol" = pure none := by rw [typeLookup_type, builtinLookup_eq_fast]; kernel_rfl
theorem dat_none : typeLookup (.type "Exception") "data" = pure none := by rw [typeLookup_type, builtinLookup_eq_fast]; kernel_rfl
theorem notFr_of {A₀ : Around} {base h₀ h : Heap} {outer : List Env} {L : Addr} {news : List (Addr × Obj)} {env : Env} (B : Below A₀ base outer h₀) (N : News h₀ L h news) (hf : env.frame = some L) :
    ∀ q ∈ news, base.get? q.1 = none ∧ q.1 ∉ (env :: outer).filterMap (·.frame) := fun q hq => by
  refine ⟨fresh_of_stays B.stays (N q hq).2.2, fun hm => ?_⟩
  obtain ⟨env', he, hf'⟩ := List.mem_filterMap.mp hm
  rcases List.mem_cons.mp he with rfl | he
  · rw [hf] at hf'
    exact (N q hq).2.1 (Option.some.inj hf').symm
  · obtain ⟨o, ho, _⟩ := (B.frames.mem (List.mem_filterMap.mpr ⟨env', he, hf'⟩)).2
    rw [(N q hq).2.2] at ho; cases ho
def Off (base : Heap) (l : List Env) (h : Heap) (news : List (Addr × Obj)) : Prop := ∀ q ∈ news, h.get? q.1 = some q.2 ∧ base.get? q.1 = none ∧ q.1 ∉ l.filterMap (·.frame)
theorem off_of {A₀ : Around} {base h₀ h : Heap} {outer : List Env} {L : Addr} {news : List (Addr × Obj)} {env : Env} (B : Below A₀ base outer h₀) (N : News h₀ L h news) (hf : env.frame = some L) : Off base (env :: outer) h news :=
  fun q hq => ⟨(N q hq).1, notFr_of B N hf q hq⟩
theorem off_keep {base h h' : Heap} {l : List Env} {news : List (Addr × Obj)} (O : Off base l h news) (k : ∀ b o, h.get? b = some o → h'.get? b = some o) : Off base l h' news := fun q hq => ⟨k _ _ (O q hq).1, (O q hq).2⟩
theorem off_push {base g h : Heap} {l : List Env} {L : Addr} {m : Str → Option Value} {news : List (Addr × Obj)} {env : Env} (O : Off base l g news) (F : Fr g L h m) (hf : env.frame = some L) : Off base (env :: l) h news := fun q hq => by
  refine ⟨F.keep _ _ (O q hq).1, (O q hq).2.1, fun hm => ?_⟩
  obtain ⟨env', he, hf'⟩ := List.mem_filterMap.mp hm
  rcases List.mem_cons.mp he with rfl | he
  · rw [hf] at hf'
    have z := Nat.lt_of_lt_of_le (Heap.lt_size (O q hq).1) F.above
    rw [Option.some.inj hf'] at z
    exact Nat.lt_irrefl _ z
  · exact (O q hq).2.2 (List.mem_filterMap.mpr ⟨env', he, hf'⟩)
theorem off_ne {base g h : Heap} {l : List Env} {news : List (Addr × Obj)} {e : Addr} (O : Off base l h news) (O2 : ∀ q ∈ news, g.get? q.1 = some q.2) (hen : g.get? e = none) : ∀ q ∈ news, h.get? q.1 = some q.2 ∧ base.get? q.1 = none ∧ q.1 ∉ l.filterMap (·.frame) ∧ q.1 ≠ e :=
  fun q hq => ⟨(O q hq).1, (O q hq).2.1, (O q hq).2.2, fun z => by
    have y := O2 q hq
    rw [z, hen] at y; cases y⟩
theorem Raise_E {M : Model} {A : Around} {E : Value → Shared → Prop} {env : Env} {s : Shared} {ex : Expr} {pos : Pos} {Q : Flow → Shared → Prop} (hh : A.handled = none)
    (h : wpAny M A (eval ex env) (fun v s₁ => ∃ e d t, v = .ref e ∧ ClsE s₁.heap 31 ∧ s₁.heap.get? e = some (eObj 31 t (some d)) ∧ E (.ref e) s₁) E s) : wpAny M A (exec (.Raise (some ex) none pos) env) Q E s := by
  show wpAny M A (do standAt pos; raiseStmt env (some (do let v ← eval ex env; standAt pos; pure v)) none) Q E s
  refine wpAny_bind (wpAny_standAt ?_)
  unfold raiseStmt
  refine wpAny_bind (wpAny_bind (wpAny_mono h (fun v s₁ h₁ => wpAny_bind (wpAny_standAt (wpAny_pure ?_))) fun _ _ x => x))
  obtain ⟨e, d, t, rfl, ⟨nm, q, N, bs, sn, sub, ab, col, dd, k0, k1, k2, k3, k5, mN, hC, _⟩, he, hE⟩ := h₁
  have hcB : (Value.ref 31 :: bmE).contains (.type "BaseException") = true := by decide +kernel
  obtain ⟨hp, g, dw, tk, os⟩ := s₁
  generalize bmE = bm at *
  repeat (first | with_reducible refine wpAny_loadPart_at he ?_ | with_reducible refine wpAny_loadPart_at hC ?_ | (with_reducible refine wpAny_isSubtype_exc hC ?_; rw [hcB]) | wp_step)
  exact wpAny_raiseNew_none hh hE
end Mine
end
section
set_option Elab.async false
set_option maxRecDepth 100000
set_option pp.maxSteps 250
set_option pp.deepTerms false
set_option linter.unusedVariables false
namespace Mine
open PySem PySem.W PySem.Spec PySem.Calls PyProof.Rows
theorem off_X4 : True := by
  w_top off
  trivial
theorem fillNow_X4 : (fun (_ : OpenLaw) (_ : Params → Frag) => True) PySem.Challenge.rw_oj0017_01 hd.heap_39 := by
  k_fill; trivial
local macro_rules | `(tactic| k_room) => `(tactic| ktr_room)
section
variable {prog : Program} {w : World} {mg mb : Str → Option Value} {p : Program} {loose : List Str} {mean : ExcName → Option Value}
variable {dp un : Nat} {gd : Option (List Code)} {cn : Str} {cs : Scope} {a : Addr} {ccd : Value} {cl : List (Str × Addr)} {outer : List Env} {A₀ : Around} {base h₀ : Heap} {L : Addr} {m : Str → Option Value} {s : Shared} {Q E : Value → Shared → Prop}
variable (B : Below A₀ base outer h₀) (F : Fr h₀ L s.heap m) (X : (hd.heap_39 w.params).In h₀) (T : Top p loose mean mg mb h₀) (hk : cs.kind = .function)
include B F X T hk
set_option maxHeartbeats 8000000
set_option maxHeartbeats 40000000
omit B F T hk in
theorem cls31 : ClsE h₀ 31 := clsE_of X (by kernel_rfl)
theorem exc_K {v1 v2 : Value} {news : List (Addr × Obj)} (N : News h₀ L s.heap news) (hdp : dp + 5 < recursionLimit) (hu : un + 40 < cLine)
    (ret : ∀ e d t h' tk', Fr h₀ L h' m → News h₀ L h' news → h'.get? e = some (eObj 31 t (some d)) → (∃ mA, h'.Ns d mA ∧ mA "symbol" = some v1) → h₀.get? e = none → h₀.get? d = none → e ≠ L → (∀ q ∈ news, q.1 ≠ e) → Q (.ref e) { s with heap := h', toks := tk' }) :
    wpAny (model prog w) (ktrTop dp un gd cn cs L a ccd cl outer) (call (.ref 31) ([v1, v2] ++ [])) Q E s := by
  refine ClsE.elim ((cls31 X).keeps F.keep) ?_
  intro nm q N31 bs sn sub ab col dd k0 k1 k2 k3 k5 mN hC hN hsa hsy hda hga hgt
  obtain ⟨hh, gg, ddr, ttk, oss⟩ := s
  have h1 : findIn (Mine.hd.heap_39 w.params) (.ref 31) "__init__" = some (some (.ref 28)) := by k_is
  have h2 : isFn (Mine.hd.heap_39 w.params) (.ref 28) = true := by k_is
  refine wpAny_call (makeE_core hC (looks_findIn (X.keeps F.keep) h1) (fun self => bind_fn (X.keeps F.keep) self (beq_iff_eq.mp h2)) (by simp [sizeLine]) ?_)
  have F1 := (F.push (tupObj [v1, v2])).push (eObj 31 hh.objs.size none)
  have N1 := (N.push F (tupObj [v1, v2])).push (F.push _) (eObj 31 hh.objs.size none)
  rw [Heap.size_push] at N1
  have hlt : ∀ p ∈ news, p.1 < hh.objs.size := fun p hp => Heap.lt_size (N p hp).1
  dsimp only at F1 N1 hlt ret
  k_dflt (refine' code_defG ?k1 ?k2 ?k3 ?k4 ?k5 ?kA ?kF ?kK ?k6 ?k7 ?k8 ?k9 ?kB ?_ ?c2 ?c3 ?c4 ?c5; (case kA => exact rfl); (case kF => exact rfl); (case kK => assumption); (case k1 => k_asm); (case k2 => k_asm); (case k3 => k_asm); (case k4 => k_asm); (case k5 => k_asm); (case k6 => k_is); (case k7 => k_is); (case k8 => ktr_room); (case k9 => exact BindsTo.of_eq rfl); (case c5 => decide); (case kB => exact locs rfl); (case c2 => exact rfl); (case c3 => exact rfl); (case c4 => exact rfl); k_whole)
  intro g' L' h' FG' F' N' B' X' T' kG'
  (try dsimp only)
  (try k_fold)
  (repeat' (walk_at "my step"))
  have e0 := N' _ (.head _)
  refine ClsE.elim ((cls31 X').keeps F'.keep) ?_
  intro nm' q' N31' bs' sn' sub' ab' col' dd' j0 j1 j2 j3 j5 mN' hC' hN' hsa' hsy' hda' hga' hgt'
  refine set_first PySem.F.store_Exception hC' hN' hsa' hsy' sym_none e0.1 rfl rfl (by intro c q; cases q) ?_
  intro hB tkB xB nB kB
  have sA : L' < h'.objs.size := lt_of_ns F'.ns
  have dL : h'.objs.size ≠ L' := Nat.ne_of_gt sA
  have dg : g'.get? h'.objs.size = none := none_of_size F'.keep
  have de : h'.objs.size ≠ hh.objs.size + 1 := Nat.ne_of_gt (Heap.lt_size e0.1)
  have F2 := fr_but (as := [hh.objs.size + 1]) F' (fun b o e n => kB b o (by simpa using n) e) (by simpa using Ne.symm e0.2.1) (by simpa using e0.2.2)
  have N2 : News g' L' hB news := fun p hp => by
    have z := N' p (.tail _ (.tail _ hp))
    exact ⟨kB _ _ (Nat.ne_of_lt (Nat.lt_succ_of_lt (hlt p hp))) z.1, z.2⟩
  have nd : ∀ p ∈ news, p.1 ≠ h'.objs.size := fun p hp => Nat.ne_of_lt (Heap.lt_size (N' p (.tail _ (.tail _ hp))).1)
  clear N' F'
  (try dsimp only)
  generalize h'.objs.size = d at *
  (repeat' (walk_at "my step"))
  refine ClsE.elim ((cls31 X').keeps F2.keep) ?_
  intro nm' q' N31' bs' sn' sub' ab' col' dd' j0 j1 j2 j3 j5 mN' hC' hN' hsa' hsy' hda' hga' hgt'
  have eC : hh.objs.size + 1 ≠ 31 := fun q => by
    rw [q] at xB
    rw [xB] at hC'
    cases hC'
  refine store_attr PySem.F.store_Exception hC' hN' hsa' hda' dat_none eC (x := hh.objs.size + 1) ⟨_, xB, rfl, (by intro c q; cases q), .inr ⟨d, rfl, de, nB⟩⟩ ?_ (Within.cons _ _ Within.nil)
  intro hD tkD xD kD yD
  obtain ⟨o1, y1, y2, y3, y4, y5⟩ := yD _ xB
  obtain ⟨oc, od, odt, osl⟩ := o1
  dsimp only at y2 y3 y4 y5
  obtain rfl := y2
  obtain rfl := y3
  obtain rfl := y4
  obtain rfl := y5 d rfl
  have kD' : ∀ b o, b ≠ hh.objs.size + 1 → b ≠ d → hB.get? b = some o → hD.get? b = some o := fun b o n1 n2 e => kD b o n1 (fun o₀ dx q1 q2 => by
    rw [xB] at q1; cases q1; cases q2; exact n2) e
  obtain ⟨o2, z1, z2, z3, z4⟩ := xD
  rw [y1] at z1
  obtain rfl := Option.some.inj z1
  rcases z4 with ⟨z4, _⟩ | ⟨dx, z4, _, z5⟩
  · cases z4
  obtain rfl := Option.some.inj z4
  have F3 := fr_but (as := [hh.objs.size + 1, d]) F2 (fun b o e n => kD' b o (by simp at n; exact n.1) (by simp at n; exact n.2) e) (by simp; exact ⟨Ne.symm e0.2.1, Ne.symm dL⟩) (by simp; exact ⟨e0.2.2, dg⟩)
  have N3 : News g' L' hD news := fun p hp => ⟨kD' _ _ (Nat.ne_of_lt (Nat.lt_succ_of_lt (hlt p hp))) (nd p hp) (N2 p hp).1, (N2 p hp).2⟩
  clear F2 N2
  (repeat' (walk_at "my step"))
  rename Fr h₀ L _ _ => F9
  rename News h₀ L _ _ => N9
  exact ret _ d _ _ _ F9 N9 y1 ⟨_, z5.ns, by rw [if_neg (by decide), if_pos rfl]⟩ (N1 _ (.head _)).2.2 (none_back FG'.keep dg) (N1 _ (.head _)).2.1 fun q hq => Nat.ne_of_lt (Nat.lt_succ_of_lt (hlt q hq))
end
end Mine
end
section
set_option Elab.async false
set_option maxRecDepth 100000
set_option pp.maxSteps 250
set_option pp.deepTerms false
set_option linter.unusedVariables false
namespace Mine
open PySem PySem.W PySem.Spec PySem.Calls PyProof.Rows
theorem off_D3 : True := by
  w_top off
  trivial
local macro_rules | `(tactic| walk_at "none") => `(tactic| skip)
theorem fillNow_D3 : (fun (_ : OpenLaw) (_ : Params → Frag) => True) PySem.Challenge.rw_oj0017_01 hd.heap_39 := by
  k_fill; trivial
local macro_rules | `(tactic| k_room) => `(tactic| ktr_room)
section
variable {prog : Program} {w : World} {mg mb : Str → Option Value} {p : Program} {loose : List Str} {mean : ExcName → Option Value}
variable {dp un : Nat} {gd : Option (List Code)} {cn : Str} {cs : Scope} {a : Addr} {ccd : Value} {cl : List (Str × Addr)} {outer : List Env} {A₀ : Around} {base h₀ : Heap} {L : Addr} {m : Str → Option Value} {s : Shared} {Q E : Value → Shared → Prop}
variable (B : Below A₀ base outer h₀) (F : Fr h₀ L s.heap m) (X : (hd.heap_39 w.params).In h₀) (T : Top p loose mean mg mb h₀) (hk : cs.kind = .function)
include B F X T hk
set_option maxHeartbeats 8000000
omit B F X T hk in
def nfGo : List Int → Int → Int → Option (Int × Int)
  | [], f, z => some (f, z)
  | c :: r, f, z => if 48 ≤ c ∧ c ≤ 57 then (if 10 * f + c - 48 > 65536 then none else nfGo r (10 * f + c - 48) (z + 1)) else some (f, z)

omit B F X T hk in
theorem drop_at {ns : List Int} {z : Int} (h0 : 0 ≤ z) (h1 : z < (ns.length : Int)) : ns.drop z.toNat = ns.getD z.toNat 0 :: ns.drop (z + 1).toNat := by
  have hlt : z.toNat < ns.length := by omega
  have e : (z + 1).toNat = z.toNat + 1 := by omega
  rw [e, List.drop_eq_getElem_cons hlt, List.getD_eq_getElem?_getD, List.getElem?_eq_getElem hlt]; rfl
omit B F X T hk in
theorem drop_end {ns : List Int} {z : Int} (h1 : ¬ z < (ns.length : Int)) : ns.drop z.toNat = [] := List.drop_eq_nil_of_le (by omega)

omit B F X T hk in
theorem toN1 {z : Int} (h : 0 ≤ z) : (z + 1).toNat = z.toNat + 1 := by omega
omit B F X T hk in
theorem nxt_eq {n len : Nat} {z : Int} (hn : n = len - z.toNat) (h : 0 ≤ z) : n - 1 = len - (z + 1).toNat := by rw [hn, toN1 h, Nat.sub_sub]
omit B F X T hk in
theorem nxt_lt {n len : Nat} {z : Int} (hn : n = len - z.toNat) (h : 0 ≤ z) (hz : z < (len : Int)) : len - (z + 1).toNat < n := by
  rw [hn, toN1 h]
  have : z.toNat < len := (Int.toNat_lt h).mpr hz
  exact Nat.sub_lt_sub_left this (Nat.lt_succ_self _)
omit B F X T hk in
inductive JNum (lc : Addr) (ns : List Int) (k : Int) (r : Option (Int × Int)) (n : Nat) (m₁ : Str → Option Value) (news₁ : List (Addr × Obj)) : Prop
  | mk (f z : Int) (tf tz : Tok) (h0 : news₁ = []) (e1 : m₁ (Str.ofString "found") = some (.int f tf)) (e2 : m₁ (Str.ofString "at") = some (.int z tz)) (e3 : m₁ (Str.ofString "codes") = some (.ref lc)) (hz0 : k ≤ z) (hz1 : z ≤ k ∨ z ≤ (ns.length : Int)) (hf0 : 0 ≤ f) (hf1 : f ≤ 65536)
    (hgo : nfGo (ns.drop z.toNat) f z = r) (hn : n = ns.length - z.toNat) : JNum lc ns k r n m₁ news₁
set_option maxHeartbeats 40000000
theorem num_B {news newsO : List (Addr × Obj)} {lc : Addr} {vs : List Value} {ns : List Int} {k : Int} {t0 : Tok} {r : Option (Int × Int)}
    (N0 : News h₀ L s.heap news) (O0 : r = none → Off base (envX cn cs L a ccd cl :: outer) s.heap newsO) (hl : s.heap.IsList lc vs.toArray) (hi : IntsAre vs ns) (hlen : ns.length ≤ 10000) (k0 : 0 ≤ k) (k1 : k ≤ 100000) (hr : nfGo (ns.drop k.toNat) 0 k = r)
    (hd : dp + 12 < recursionLimit) (hu : un + 80 < cLine)
    (ret : ∀ rf rz, r = some (rf, rz) → ∀ D t1 t2 h' tk', k ≤ rz → (rz ≤ k ∨ rz ≤ (ns.length : Int)) → 0 ≤ rf → rf ≤ 65536 → Fr h₀ L h' m → News h₀ L h' ((D, { cls := .type "tuple", data := .seq [.int rf t1, .int rz t2].toArray }) :: news) → (∀ p ∈ news, p.1 ≠ D) → GSub s.heap h' [] → Q (.ref D) { s with heap := h', toks := tk' })
    (rais : r = none → ∀ e d t h' tk', RaisedD base (envX cn cs L a ccd cl :: outer) e d (.str (Str.ofString "error") t) newsO h' → s.heap.UpToSlots h' → E (.ref e) { s with heap := h', toks := tk' }) :
    wpAny (model prog w) (ktrTop dp un gd cn cs L a ccd cl outer) (call (.ref 62) [.ref lc, .int k t0]) Q E s := by
  have N : News h₀ L s.heap [] := News.nil
  refine wpAny_call ?_
  k_dflt (walk_at "my enter")
  refine letAE ?_
  intro eK AK
  have hgl : g'.IsList lc vs.toArray := gsub_list kG' hl (by simp)
  (repeat' (walk_at "my step"))
  rename Fr g' L' _ _ => F1
  rename News g' L' _ _ => N1
  refine While_inv2 (fun n m₁ news₁ => JNum lc ns k r n m₁ news₁) (n₀ := ns.length - k.toNat) F1 N1 ⟨0, k, _, _, rfl, rfl, rfl, rfl, by omega, by omega, by omega, by omega, hr, rfl⟩ ?_
  intro n m₁ news₁ h₁ tk₁ F2 N2 hJ
  refine aside ?_
  intro gA hA
  obtain ⟨f, z, tf, tz, rfl, e1, e2, e3, hz0, hz1, hf0, hf1, hgo, hn⟩ := hJ
  refine hA ?_
  clear hA gA
  clear F1 N1
  have hstop : nfGo (ns.drop z.toNat) f z = some (f, z) → r = some (f, z) := fun e => hgo.symm.trans e
  (repeat' ((fail_if_success (with_reducible show wpAny _ _ (exec (Stmt.Raise _ _ _) _) _ _ _)); walk_at "my step"))
  · have hrn : r = none := by
      rw [drop_at (by omega) (by assumption)] at hgo
      simp only [nfGo] at hgo
      rw [if_pos ⟨by assumption, by assumption⟩, if_pos (by assumption)] at hgo
      exact hgo.symm
    have O1 := off_keep (O0 hrn) (gsub_none kG')
    refine Raise_E (by k_dflt (exact rfl)) ?_
    (repeat' ((fail_if_success (with_reducible show wpAny _ _ (call (.ref 31) _) _ _ _)); walk_at "my step"))
    rename Fr g' L' _ _ => F3
    k_dflt (refine' exc_K (news := []) ?kB ?kF ?kX ?kT ?kK ?kN ?kd ?ku ?_; (case kB => k_asm); (case kF => exact F3); (case kN => exact News.nil); (case kX => k_asm); (case kT => k_asm); (case kK => exact rfl); (case kd => ktr_room); (case ku => ktr_units))
    intro e d t h4 tk4 F4 N4 he hs4 hen hdn heL hne
    refine ⟨e, d, t, rfl, (cls31 X').keeps F4.keep, he, ?_⟩
    k_dflt (refine' leave_raiseD (news := newsO) B' F4 (off_ne (off_push O1 F4 rfl) (fun q hq => (O1 q hq).1) hen) he rfl rfl rfl rfl rfl hen hs4 hdn ?_ rfl)
    · intro h5 R5 U5
      exact rais hrn e d _ h5 _ R5 ((Heap.UpToSlots.of_keeps (gsub_none kG')).trans U5)
  · refine ⟨_, _, _, [], n - 1, rfl, by assumption, News.nil, (by rw [nxt_eq hn (by omega)]; exact nxt_lt hn (by omega) (by assumption)), _, _, _, _, rfl, (by first | exact rfl | assumption), (by first | exact rfl | assumption), (by first | exact rfl | assumption), by omega, by omega, by omega, by omega, ?_, nxt_eq hn (by omega)⟩
    rw [drop_at (by omega) (by assumption)] at hgo
    simp only [nfGo] at hgo
    rw [if_pos ⟨by assumption, by assumption⟩, if_neg (by assumption)] at hgo
    exact hgo
  · have hrs := hstop (by rw [drop_at (by omega) (by assumption)]; simp only [nfGo]; rw [if_neg (by omega)])
    have kG9 : GSub s.heap _ [] := gsub_fr kG' (by assumption)
    exact ret _ _ hrs _ _ _ _ _ hz0 hz1 hf0 hf1 (by k_asm) (news_cons (by k_asm) (gsub_news N0 kG9)) (new_ne kG' (by rename News g' L' _ _ => N9; exact N9) (.head _) N0 (by simp)) kG9
  · have hrs := hstop (by rw [drop_at (by omega) (by assumption)]; simp only [nfGo]; rw [if_neg (by omega)])
    have kG9 : GSub s.heap _ [] := gsub_fr kG' (by assumption)
    exact ret _ _ hrs _ _ _ _ _ hz0 hz1 hf0 hf1 (by k_asm) (news_cons (by k_asm) (gsub_news N0 kG9)) (new_ne kG' (by rename News g' L' _ _ => N9; exact N9) (.head _) N0 (by simp)) kG9
  · have hrs := hstop (by rw [drop_end (by assumption)]; rfl)
    have kG9 : GSub s.heap _ [] := gsub_fr kG' (by assumption)
    exact ret _ _ hrs _ _ _ _ _ hz0 hz1 hf0 hf1 (by k_asm) (news_cons (by k_asm) (gsub_news N0 kG9)) (new_ne kG' (by rename News g' L' _ _ => N9; exact N9) (.head _) N0 (by simp)) kG9
end
end Mine
end
section
set_option Elab.async false
set_option maxRecDepth 100000
set_option pp.maxSteps 250
set_option pp.deepTerms false
set_option linter.unusedVariables false
namespace Mine
open PySem PySem.W PySem.Spec PySem.Calls PyProof.Rows
theorem off_D4 : True := by
  w_top off
  trivial
theorem fillNow_D4 : (fun (_ : OpenLaw) (_ : Params → Frag) => True) PySem.Challenge.rw_oj0017_01 hd.heap_39 := by
  k_fill; trivial
local macro_rules | `(tactic| k_room) => `(tactic| ktr_room)
section
variable {prog : Program} {w : World} {mg mb : Str → Option Value} {p : Program} {loose : List Str} {mean : ExcName → Option Value}
variable {dp un : Nat} {gd : Option (List Code)} {cn : Str} {cs : Scope} {a : Addr} {ccd : Value} {cl : List (Str × Addr)} {outer : List Env} {A₀ : Around} {base h₀ : Heap} {L : Addr} {m : Str → Option Value} {s : Shared} {Q E : Value → Shared → Prop}
variable (B : Below A₀ base outer h₀) (F : Fr h₀ L s.heap m) (X : (hd.heap_39 w.params).In h₀) (T : Top p loose mean mg mb h₀) (hk : cs.kind = .function)
include B F X T hk
set_option maxHeartbeats 8000000
omit B F X T hk in
def tfGo : List Int → Int → Bool → Bool → Bool → Bool → Bool → Int × Bool × Bool × Bool × Bool × Bool
  | [], z, l, p, b, n, m => (z, l, p, b, n, m)
  | c :: r, z, l, p, b, n, m => if c = 45 ∨ c = 43 ∨ c = 32 ∨ c = 48 ∨ c = 35 then tfGo r (z + 1) (l || c == 45) (p || c == 43) (b || c == 32) (n || c == 48) (m || c == 35) else (z, l, p, b, n, m)

omit B F X T hk in
theorem flag_in {c : Int} (h : ([45, 43, 32, 48, 35].any fun x => x == c) = true) : c = 45 ∨ c = 43 ∨ c = 32 ∨ c = 48 ∨ c = 35 := by
  simp only [List.any_cons, List.any_nil, Bool.or_false, Bool.or_eq_true, beq_iff_eq] at h
  rcases h with rfl | rfl | rfl | rfl | rfl <;> decide
omit B F X T hk in
theorem flag_out {c : Int} (h : ([45, 43, 32, 48, 35].any fun x => x == c) = false) : ¬ (c = 45 ∨ c = 43 ∨ c = 32 ∨ c = 48 ∨ c = 35) := by
  simp only [List.any_cons, List.any_nil, Bool.or_false, Bool.or_eq_false_iff, beq_eq_false_iff_ne] at h
  rintro (q | q | q | q | q)
  · exact h.1 q.symm
  · exact h.2.1 q.symm
  · exact h.2.2.1 q.symm
  · exact h.2.2.2.1 q.symm
  · exact h.2.2.2.2 q.symm

theorem flags_K {news : List (Addr × Obj)} {g : Obj → List (Addr × Obj)} {x dx lc : Addr} {es : List DictEntry} {vs : List Value} {ns : List Int} {k : Int} {tk0 : Tok} {f : Int} {bl bp bb bn bm : Bool} {wd pr : Int} {lt : Str}
    {rz : Int} {rl rp rb rn rm : Bool}
    (N0 : News h₀ L s.heap news) (hx : (x, instObj 51 dx) ∈ news) (U : UpdF dx (dictOf es 9) news g) (hs : IsSpec w.params es f bl bp bb bn bm wd pr lt) (hxd : x ≠ dx)
    (hl : s.heap.IsList lc vs.toArray) (hlx : lc ≠ x) (hld : lc ≠ dx) (hi : IntsAre vs ns) (hlen : ns.length ≤ 10000) (k0 : 0 ≤ k) (k1 : k ≤ 20000) (hr : tfGo (ns.drop k.toNat) k bl bp bb bn bm = (rz, rl, rp, rb, rn, rm))
    (hd : dp + 5 < recursionLimit) (hu : un + 40 < cLine)
    (ret : ∀ t h' tk' es', IsSpec w.params es' f rl rp rb rn rm wd pr lt → k ≤ rz → (rz ≤ k ∨ rz ≤ (ns.length : Int)) → Fr h₀ L h' m → News h₀ L h' (g (dictOf es' 9)) → GSub s.heap h' [dx] → Q (.int rz t) { s with heap := h', toks := tk' }) :
    wpAny (model prog w) (ktrTop dp un gd cn cs L a ccd cl outer) (call (.ref 69) [.ref x, .ref lc, .int k tk0]) Q E s := by
  refine IsSpec.elim hs ?_
  intro k0'  k1'  k2'  k3'  k4'  k5'  k6'  k7'  k8'  t0'  t6'  t7'  t8'   qEs
  subst qEs
  have N : News h₀ L s.heap [(x, instObj 51 dx), (dx, dictOf (specEs w.params k0' k1' k2' k3' k4' k5' k6' k7' k8' t0' t6' t7' t8' f bl bp bb bn bm wd pr lt) 9)] :=
    news_sub N0 (by intro p hp; rcases List.mem_cons.mp hp with rfl | hp; exact hx; exact updF_mem U p hp)
  refine wpAny_call ?_
  k_dflt (walk_at "my enter")
  refine letAE ?_
  intro eK AK
  have hgl : g'.IsList lc vs.toArray := gsub_list kG' hl (by simp [hlx, hld])
  have hxd' : @Ne Nat x dx := hxd
  (repeat' (walk_at "my step"))
  rename Fr g' L' _ _ => F1
  rename News g' L' _ _ => N1
  refine While_inv2 (fun n m₁ news₁ => ∃ z tz l p b n' m', news₁ = [(x, instObj 51 dx), (dx, dictOf (specEs w.params k0' k1' k2' k3' k4' k5' k6' k7' k8' t0' t6' t7' t8' f l p b n' m' wd pr lt) 9)] ∧
     m₁ (Str.ofString "spec") = some (.ref x) ∧ m₁ (Str.ofString "codes") = some (.ref lc) ∧ m₁ (Str.ofString "at") = some (.int z tz) ∧ k ≤ z ∧ (z ≤ k ∨ z ≤ (ns.length : Int)) ∧
     tfGo (ns.drop z.toNat) z l p b n' m' = (rz, rl, rp, rb, rn, rm) ∧ n = ns.length - z.toNat) (n₀ := ns.length - k.toNat) F1 N1 ⟨k, _, bl, bp, bb, bn, bm, rfl, rfl, rfl, rfl, by omega, by omega, hr, rfl⟩ ?_
  intro n m₁ news₁ h₁ tk₁ F2 N2 hJ
  refine aside ?_
  intro gA hA
  obtain ⟨z, tz, l, p, b, n', m', rfl, e1, e2, e3, hz0, hz1, hgo, hn⟩ := hJ
  refine hA ?_
  clear hA gA
  clear F1 N1
  (repeat' ((fail_if_success (with_reducible show wpAny _ _ (exec (Stmt.Assign [Expr.Attribute _ _ _] (Expr.BoolOp _ _ _) _) _) _ _ _)); walk_at "my step"))
  · refine mid_j (fun Qm => ∀ h' tk' mq tc, Fr g' L' h' mq → mq (Str.ofString "spec") = some (.ref x) → mq (Str.ofString "codes") = some (.ref lc) → mq (Str.ofString "at") = some (.int z tz) → mq (Str.ofString "code") = some (.int (ns.getD z.toNat 0) tc) → News g' L' h' [(x, instObj 51 dx), (dx, dictOf (specEs w.params k0' k1' k2' k3' k4' k5' k6' k7' k8' t0' t6' t7' t8' f (l || (ns.getD z.toNat 0) == 45) p b n' m' wd pr lt) 9)] → Qm .next { s with heap := h', toks := tk' }) ?_ ?_
    · intro Qm hQm
      (repeat' (walk_at "my step"))
      all_goals subst_vars
      all_goals (
        rename Fr g' L' _ _ => F3
        rename News g' L' _ _ => N9
        exact hQm _ _ _ _ F3 (by first | exact rfl | assumption) (by first | exact rfl | assumption) (by first | exact rfl | assumption) (by first | exact rfl | assumption) (news_sub N9 (by lcg_sub)))
    rintro h3 tk3 m3 tc F3 e1 e2 e3 e4 N3
    (try dsimp only)
    (repeat' ((fail_if_success (with_reducible show wpAny _ _ (exec (Stmt.Assign [Expr.Attribute _ _ _] (Expr.BoolOp _ _ _) _) _) _ _ _)); walk_at "my step"))
    refine mid_j (fun Qm => ∀ h' tk' mq tc, Fr g' L' h' mq → mq (Str.ofString "spec") = some (.ref x) → mq (Str.ofString "codes") = some (.ref lc) → mq (Str.ofString "at") = some (.int z tz) → mq (Str.ofString "code") = some (.int (ns.getD z.toNat 0) tc) → News g' L' h' [(x, instObj 51 dx), (dx, dictOf (specEs w.params k0' k1' k2' k3' k4' k5' k6' k7' k8' t0' t6' t7' t8' f (l || (ns.getD z.toNat 0) == 45) (p || (ns.getD z.toNat 0) == 43) b n' m' wd pr lt) 9)] → Qm .next { s with heap := h', toks := tk' }) ?_ ?_
    · intro Qm hQm
      (repeat' (walk_at "my step"))
      all_goals subst_vars
      all_goals (
        rename Fr g' L' _ _ => F3
        rename News g' L' _ _ => N9
        exact hQm _ _ _ _ F3 (by first | exact rfl | assumption) (by first | exact rfl | assumption) (by first | exact rfl | assumption) (by first | exact rfl | assumption) (news_sub N9 (by lcg_sub)))
    rintro h3 tk3 m3 tc F3 e1 e2 e3 e4 N3
    (try dsimp only)
    (repeat' ((fail_if_success (with_reducible show wpAny _ _ (exec (Stmt.Assign [Expr.Attribute _ _ _] (Expr.BoolOp _ _ _) _) _) _ _ _)); walk_at "my step"))
    refine mid_j (fun Qm => ∀ h' tk' mq tc, Fr g' L' h' mq → mq (Str.ofString "spec") = some (.ref x) → mq (Str.ofString "codes") = some (.ref lc) → mq (Str.ofString "at") = some (.int z tz) → mq (Str.ofString "code") = some (.int (ns.getD z.toNat 0) tc) → News g' L' h' [(x, instObj 51 dx), (dx, dictOf (specEs w.params k0' k1' k2' k3' k4' k5' k6' k7' k8' t0' t6' t7' t8' f (l || (ns.getD z.toNat 0) == 45) (p || (ns.getD z.toNat 0) == 43) (b || (ns.getD z.toNat 0) == 32) n' m' wd pr lt) 9)] → Qm .next { s with heap := h', toks := tk' }) ?_ ?_
    · intro Qm hQm
      (repeat' (walk_at "my step"))
      all_goals subst_vars
      all_goals (
        rename Fr g' L' _ _ => F3
        rename News g' L' _ _ => N9
        exact hQm _ _ _ _ F3 (by first | exact rfl | assumption) (by first | exact rfl | assumption) (by first | exact rfl | assumption) (by first | exact rfl | assumption) (news_sub N9 (by lcg_sub)))
    rintro h3 tk3 m3 tc F3 e1 e2 e3 e4 N3
    (try dsimp only)
    (repeat' ((fail_if_success (with_reducible show wpAny _ _ (exec (Stmt.Assign [Expr.Attribute _ _ _] (Expr.BoolOp _ _ _) _) _) _ _ _)); walk_at "my step"))
    refine mid_j (fun Qm => ∀ h' tk' mq tc, Fr g' L' h' mq → mq (Str.ofString "spec") = some (.ref x) → mq (Str.ofString "codes") = some (.ref lc) → mq (Str.ofString "at") = some (.int z tz) → mq (Str.ofString "code") = some (.int (ns.getD z.toNat 0) tc) → News g' L' h' [(x, instObj 51 dx), (dx, dictOf (specEs w.params k0' k1' k2' k3' k4' k5' k6' k7' k8' t0' t6' t7' t8' f (l || (ns.getD z.toNat 0) == 45) (p || (ns.getD z.toNat 0) == 43) (b || (ns.getD z.toNat 0) == 32) (n' || (ns.getD z.toNat 0) == 48) m' wd pr lt) 9)] → Qm .next { s with heap := h', toks := tk' }) ?_ ?_
    · intro Qm hQm
      (repeat' (walk_at "my step"))
      all_goals subst_vars
      all_goals (
        rename Fr g' L' _ _ => F3
        rename News g' L' _ _ => N9
        exact hQm _ _ _ _ F3 (by first | exact rfl | assumption) (by first | exact rfl | assumption) (by first | exact rfl | assumption) (by first | exact rfl | assumption) (news_sub N9 (by lcg_sub)))
    rintro h3 tk3 m3 tc F3 e1 e2 e3 e4 N3
    (try dsimp only)
    (repeat' ((fail_if_success (with_reducible show wpAny _ _ (exec (Stmt.Assign [Expr.Attribute _ _ _] (Expr.BoolOp _ _ _) _) _) _ _ _)); walk_at "my step"))
    refine mid_j (fun Qm => ∀ h' tk' mq tc, Fr g' L' h' mq → mq (Str.ofString "spec") = some (.ref x) → mq (Str.ofString "codes") = some (.ref lc) → mq (Str.ofString "at") = some (.int z tz) → mq (Str.ofString "code") = some (.int (ns.getD z.toNat 0) tc) → News g' L' h' [(x, instObj 51 dx), (dx, dictOf (specEs w.params k0' k1' k2' k3' k4' k5' k6' k7' k8' t0' t6' t7' t8' f (l || (ns.getD z.toNat 0) == 45) (p || (ns.getD z.toNat 0) == 43) (b || (ns.getD z.toNat 0) == 32) (n' || (ns.getD z.toNat 0) == 48) (m' || (ns.getD z.toNat 0) == 35) wd pr lt) 9)] → Qm .next { s with heap := h', toks := tk' }) ?_ ?_
    · intro Qm hQm
      (repeat' (walk_at "my step"))
      all_goals subst_vars
      all_goals (
        rename Fr g' L' _ _ => F3
        rename News g' L' _ _ => N9
        exact hQm _ _ _ _ F3 (by first | exact rfl | assumption) (by first | exact rfl | assumption) (by first | exact rfl | assumption) (by first | exact rfl | assumption) (news_sub N9 (by lcg_sub)))
    rintro h3 tk3 m3 tc F3 e1 e2 e3 e4 N3
    (try dsimp only)
    (repeat' ((fail_if_success (with_reducible show wpAny _ _ (exec (Stmt.Assign [Expr.Attribute _ _ _] (Expr.BoolOp _ _ _) _) _) _ _ _)); walk_at "my step"))
    have hin := flag_in (by assumption)
    rw [drop_at (by omega) (by assumption)] at hgo
    simp only [tfGo] at hgo
    rw [if_pos hin] at hgo
    rename Fr g' L' _ _ => F4
    rename News g' L' _ _ => N9
    exact ⟨_, _, _, _, ns.length - (z + 1).toNat, rfl, F4, N9, nxt_lt hn (by omega) (by assumption), z + 1, _, _, _, _, _, _, rfl, (by first | exact rfl | assumption), (by first | exact rfl | assumption), (by first | exact rfl | assumption), by omega, by omega, hgo, rfl⟩
  all_goals (
    obtain ⟨rfl, rfl, rfl, rfl, rfl, rfl⟩ : z = rz ∧ l = rl ∧ p = rp ∧ b = rb ∧ n' = rn ∧ m' = rm := by
      first
      | (rw [drop_at (by omega) (by assumption)] at hgo; simp only [tfGo] at hgo; rw [if_neg (flag_out (by assumption))] at hgo; simpa using hgo)
      | (rw [drop_end (by assumption)] at hgo; simpa [tfGo] using hgo)
    rename News h₀ L _ _ => N9
    have kG9 : GSub s.heap _ [dx] := gsub_less (gsub_fr kG' (by assumption)) (N0 _ hx).1 (N9 (x, _) (by k_mem)).1
    exact ret _ _ _ _ IsSpec.of hz0 hz1 (by k_asm) (updF_news N0 U kG9 (news_sub N9 (by lcg_sub))) kG9)
end
end Mine
end
section
set_option Elab.async false
set_option maxRecDepth 100000
set_option pp.maxSteps 250
set_option pp.deepTerms false
set_option linter.unusedVariables false
namespace Mine
open PySem PySem.W PySem.Spec PySem.Calls PyProof.Rows
theorem off_D5 : True := by
  w_top off
  trivial
local macro_rules | `(tactic| walk_at "none") => `(tactic| skip)
theorem fillNow_D5 : (fun (_ : OpenLaw) (_ : Params → Frag) => True) PySem.Challenge.rw_oj0017_01 hd.heap_39 := by
  k_fill; trivial
local macro_rules | `(tactic| k_room) => `(tactic| ktr_room)
section
variable {prog : Program} {w : World} {mg mb : Str → Option Value} {p : Program} {loose : List Str} {mean : ExcName → Option Value}
variable {dp un : Nat} {gd : Option (List Code)} {cn : Str} {cs : Scope} {a : Addr} {ccd : Value} {cl : List (Str × Addr)} {outer : List Env} {A₀ : Around} {base h₀ : Heap} {L : Addr} {m : Str → Option Value} {s : Shared} {Q E : Value → Shared → Prop}
variable (B : Below A₀ base outer h₀) (F : Fr h₀ L s.heap m) (X : (hd.heap_39 w.params).In h₀) (T : Top p loose mean mg mb h₀) (hk : cs.kind = .function)
include B F X T hk
set_option maxHeartbeats 8000000
omit B F X T hk in
theorem list_ne {g h : Heap} {L' lc x : Addr} {o : Obj} {its : Array Value} {small : List (Addr × Obj)} (hl : g.IsList lc its) (N : News g L' h small) (hm : (x, o) ∈ small) : lc ≠ x := fun q => by
  obtain ⟨o', e, _⟩ := hl
  rw [q, (N _ hm).2.2] at e
  cases e
theorem spec_K (hd : dp + 5 < recursionLimit) (hu : un + 40 < cLine)
    (ret : ∀ x dx es h' tk', IsSpec w.params es (-1) false false false false false 0 (-1) (Str.ofString "") → Fr h₀ L h' m → News h₀ L h' [(x, instObj 51 dx), (dx, dictOf es 9)] → dx < x → Q (.ref x) { s with heap := h', toks := tk' }) :
    wpAny (model prog w) (ktrTop dp un gd cn cs L a ccd cl outer) (call (.ref 51) ([] ++ [])) Q E s := by
  have N : News h₀ L s.heap [] := News.nil
  k_dflt (refine' call_cls ?k1 ?k2 ?k3 ?k4 ?k5 ?k6 ?_; (case k1 => k_asm); (case k2 => k_asm); (case k3 => k_asm); (case k4 => k_is); (case k5 => k_is); (case k6 => k_is); k_whole)
  intro x dx h1 F1 N1 l1 l2
  (try k_lt2 l2)
  k_dflt (refine' code_def ?k1 ?k2 ?k3 ?k4 ?k5 ?kA ?kF ?kK ?k6 ?k7 ?k8 ?k9 ?kB ?_ ?c2 ?c3 ?c4 ?c5; (case kA => exact rfl); (case kF => exact rfl); (case kK => assumption); (case k1 => k_asm); (case k2 => k_asm); (case k3 => k_asm); (case k4 => k_asm); (case k5 => k_asm); (case k6 => k_is); (case k7 => k_is); (case k8 => ktr_room); (case k9 => exact BindsTo.of_eq rfl); (case c5 => decide); (case kB => exact locs rfl); (case c2 => exact rfl); (case c3 => exact rfl); (case c4 => exact rfl); k_whole)
  intro g' L' h' FG' F' N' B' X' T'
  (try dsimp only)
  (try k_fold)
  (repeat' (walk_at "my step"))
  rename News h₀ L _ _ => N9
  exact ret _ _ _ _ _ IsSpec.of (by k_asm) N9 l2

omit B F X T hk in
def rsGo (ns : List Int) (k : Int) : Option (Int × (Bool × Bool × Bool × Bool × Bool) × Int × Int × Int × Int) :=
  match nfGo (ns.drop k.toNat) 0 k with
  | none => none
  | some (f0, z0) =>
    let c := decide (k < z0 ∧ z0 < (ns.length : Int) ∧ ns.getD z0.toNat 0 = 36)
    if c = true ∧ f0 = 0 then none else
    let z1 := if c then z0 + 1 else k
    match tfGo (ns.drop z1.toNat) z1 false false false false false with
    | (z2, fl) =>
      match nfGo (ns.drop z2.toNat) 0 z2 with
      | none => none
      | some (wd, z3) =>
        match (if z3 < (ns.length : Int) ∧ ns.getD z3.toNat 0 = 46 then nfGo (ns.drop (z3 + 1).toNat) 0 (z3 + 1) else some (-1, z3)) with
        | none => none
        | some (pr, z4) => if z4 < (ns.length : Int) then some (if c then f0 - 1 else -1, fl, wd, pr, ns.getD z4.toNat 0, z4 + 1) else none

set_option maxHeartbeats 40000000
theorem read_B {news newsO : List (Addr × Obj)} {lc : Addr} {vs : List Value} {ns : List Int} {k : Int} {tk0 : Tok} {r : Option (Int × (Bool × Bool × Bool × Bool × Bool) × Int × Int × Int × Int)}
    (N0 : News h₀ L s.heap news) (O0 : r = none → Off base (envX cn cs L a ccd cl :: outer) s.heap newsO) (hl : s.heap.IsList lc vs.toArray) (hi : IntsAre vs ns) (hlen : ns.length ≤ 10000) (k0 : 0 ≤ k) (k1 : k ≤ 10000)
    (hr : rsGo ns k = r) (hc : ∀ f fl wd pr c z, r = some (f, fl, wd, pr, c, z) → 32 ≤ c ∧ c < 127) (hdp : dp + 20 < recursionLimit) (hu : un + 160 < cLine)
    (ret : ∀ f fl wd pr c z, r = some (f, fl, wd, pr, c, z) → ∀ D x dx es t h' tk', IsSpec w.params es f fl.1 fl.2.1 fl.2.2.1 fl.2.2.2.1 fl.2.2.2.2 wd pr ⟨#[c.toNat]⟩ → Fr h₀ L h' m →
      News h₀ L h' ((D, { cls := .type "tuple", data := .seq [.ref x, .int z t].toArray }) :: (x, instObj 51 dx) :: (dx, dictOf es 9) :: news) →
      (∀ p ∈ news, p.1 ≠ D) → (∀ p ∈ news, p.1 ≠ x) → (∀ p ∈ news, p.1 ≠ dx) → dx < x → x < D → GSub s.heap h' [] → Q (.ref D) { s with heap := h', toks := tk' })
    (rais : r = none → ∀ e d t h' tk', RaisedD base (envX cn cs L a ccd cl :: outer) e d (.str (Str.ofString "error") t) newsO h' → s.heap.UpToSlots h' → E (.ref e) { s with heap := h', toks := tk' }) :
    wpAny (model prog w) (ktrTop dp un gd cn cs L a ccd cl outer) (call (.ref 76) [.ref lc, .int k tk0]) Q E s := by
  unfold rsGo at hr
  have N : News h₀ L s.heap [] := News.nil
  refine wpAny_call ?_
  k_dflt (walk_at "my enter")
  refine letAE ?_
  intro eK AK
  have hgl : g'.IsList lc vs.toArray := gsub_list kG' hl (by simp)
  have O1 := fun q : r = none => off_keep (O0 q) (gsub_none kG')
  (repeat' (walk_at "my step"))
  k_dflt (refine' spec_K ?kB ?kF ?kX ?kT ?kK ?kd ?ku ?_; (case kB => k_asm); (case kF => k_asm); (case kX => k_asm); (case kT => k_asm); (case kK => exact rfl); (case kd => ktr_room); (case ku => ktr_units))
  intro x dx es h1 tk1 hs1 F1 N1 l1
  replace l1 := ltN l1
  refine IsSpec.elim hs1 ?_
  intro q0  q1  q2  q3  q4  q5  q6  q7  q8  u0  u6  u7  u8   qEs
  subst qEs
  have hlx : @Ne Nat lc x := list_ne hgl N1 (by k_mem)
  have hld : @Ne Nat lc dx := list_ne hgl N1 (by k_mem)
  (repeat' (walk_at "my step"))
  have hq0 : nfGo (ns.drop k.toNat) 0 k = none → r = none := fun q => by rw [q] at hr; exact hr.symm
  rename Fr g' L' _ _ => FF
  k_dflt (refine' num_B (newsO := newsO) ?kB ?kF ?kX ?kT ?kK ?kN ?kO ?kl ?ki ?kz ?k0 ?k1 rfl ?kd ?ku ?_ ?rs; (case kB => k_asm); (case kF => exact FF); (case kX => k_asm); (case kT => k_asm); (case kK => exact rfl); (case kN => k_asm); (case kO => exact fun q => off_push (O1 (hq0 q)) FF rfl); (case kl => is_list); (case ki => assumption); (case kz => assumption); (case k0 => omega); (case k1 => omega); (case kd => ktr_room); (case ku => ktr_units))
  case rs =>
    intro q e d t h7 tk7 R7 U7
    have hrn := hq0 q
    k_dflt (refine' leave_onD B' FF R7 U7 ?_)
    intro h8 R8 U8
    exact rais hrn e d _ h8 _ R8 ((Heap.UpToSlots.of_keeps (gsub_none kG')).trans U8)
  intro f0 z0 hn0 D1 ta1 tb1 h2 tk2 hz01 hz02 hf01 hf02 F2 N2 ne2 G2
  rw [hn0] at hr
  dsimp only at hr
  generalize hcc : decide (k < z0 ∧ z0 < (ns.length : Int) ∧ ns.getD z0.toNat 0 = 36) = cc at hr
  generalize hz1 : (if cc = true then z0 + 1 else k) = z1 at hr
  replace ne2 := allNe_of ne2; simp only [AllNe, and_true] at ne2
  (repeat' ((fail_if_success (with_reducible show wpAny _ _ (exec (Stmt.If _ _ _ _) _) _ _ _)); walk_at "my step"))
  rename Fr g' L' _ _ => F3
  rename News g' L' _ _ => N3
  by_cases hnz : cc = true ∧ f0 = 0
  · rw [if_pos hnz] at hr
    have O1 := O1 hr.symm
    refine aside ?_
    intro gA hA
    obtain ⟨ec, ef⟩ := hnz
    refine hA ?_
    clear hA gA
    rw [← hcc, decide_eq_true_eq] at ec
    refine aside ?_
    intro gA hA
    obtain ⟨ec1, ec2, ec3⟩ := ec
    refine hA ?_
    clear hA gA
    (repeat' ((fail_if_success (with_reducible show wpAny _ _ (exec (Stmt.Raise _ _ _) _) _ _ _)); walk_at "my step"))
    all_goals first
      | (exfalso; first | contradiction | omega)
      | skip
    refine Raise_E (by k_dflt (exact rfl)) ?_
    (repeat' ((fail_if_success (with_reducible show wpAny _ _ (call (.ref 31) _) _ _ _)); walk_at "my step"))
    rename Fr g' L' _ _ => FF
    k_dflt (refine' exc_K (news := []) ?kB ?kF ?kX ?kT ?kK ?kN ?kd ?ku ?_; (case kB => k_asm); (case kF => exact FF); (case kN => exact News.nil); (case kX => k_asm); (case kT => k_asm); (case kK => exact rfl); (case kd => ktr_room); (case ku => ktr_units))
    intro e d t h7 tk7 F7 N7 he hs7 hen hdn heL hne
    refine ⟨e, d, t, rfl, (cls31 X').keeps F7.keep, he, ?_⟩
    k_dflt (refine' leave_raiseD (news := newsO) B' F7 (off_ne (off_push O1 F7 rfl) (fun q hq => (O1 q hq).1) hen) he rfl rfl rfl rfl rfl hen hs7 hdn ?_ rfl)
    intro h8 R8 U8
    exact rais hr.symm e d _ h8 _ R8 ((Heap.UpToSlots.of_keeps (gsub_none kG')).trans U8)
  rw [if_neg hnz] at hr
  obtain ⟨z2, l2, p2, b2, n2, m2, htf⟩ : ∃ z2 l p b n m, tfGo (ns.drop z1.toNat) z1 false false false false false = (z2, l, p, b, n, m) := ⟨_, _, _, _, _, _, rfl⟩
  rw [htf] at hr
  dsimp only at hr
  refine mid_j (fun Qm => ∀ h' tk' mq tz es', IsSpec w.params es' (if cc then f0 - 1 else -1) false false false false false 0 (-1) (Str.ofString "") → Fr g' L' h' mq → mq (Str.ofString "spec") = some (.ref x) → mq (Str.ofString "codes") = some (.ref lc) → mq (Str.ofString "at") = some (.int z1 tz) → News g' L' h' [(x, instObj 51 dx), (dx, dictOf es' 9)] → Qm .next { s with heap := h', toks := tk' }) ?_ ?_
  · intro Qm hQm
    (repeat' (walk_at "my step"))
    all_goals (first
      | (have ecc : cc = true := by
          rw [← hcc, decide_eq_true_eq]; exact ⟨by assumption, by assumption, by assumption⟩
         first
         | (exfalso; exact hnz ⟨ecc, by assumption⟩)
         | (subst ecc
            subst z1
            rename Fr g' L' _ _ => F8
            rename News g' L' _ _ => N8
            exact hQm _ _ _ _ _ IsSpec.of F8 (by first | exact rfl | assumption) (by first | exact rfl | assumption) (by first | exact rfl | assumption) (news_sub N8 (by lcg_sub))))
      | (have ecc : cc = false := by
          rw [← hcc, decide_eq_false_iff_not]; rintro ⟨y1, y2, y3⟩; contradiction
         subst ecc
         subst z1
         rename Fr g' L' _ _ => F8
         rename News g' L' _ _ => N8
         exact hQm _ _ _ _ _ IsSpec.of F8 (by first | exact rfl | assumption) (by first | exact rfl | assumption) (by first | exact rfl | assumption) (news_sub N8 (by lcg_sub))))
  rintro h3 tk3 mq tz es3 hs3 F3 e1 e2 e3 N3
  (try dsimp only)
  have hz1a : 0 ≤ z1 ∧ z1 ≤ 10002 := by rw [← hz1]; split <;> omega
  (repeat' (walk_at "my step"))
  k_dflt (refine' flags_K ?kB ?kF ?kX ?kT ?kK ?kN ?kx ?kU ?ks ?kxd ?kl ?klx ?kld ?ki ?kz ?k0 ?k1 ?kr ?kd ?ku ?_; (case kB => k_asm); (case kF => k_asm); (case kX => k_asm); (case kT => k_asm); (case kK => exact rfl); (case kN => k_asm); (case kx => k_mem); (case kU => k_updF); (case ks => assumption); (case kxd => k_ne); (case kl => is_list); (case klx => exact hlx); (case kld => exact hld); (case ki => assumption); (case kz => assumption); (case kr => assumption); (case k0 => omega); (case k1 => omega); (case kd => ktr_room); (case ku => ktr_units))
  intro t4 h4 tk4 es4 hs4 hz41 hz42 F4 N4 G4
  (try dsimp only at N4)
  (repeat' (walk_at "my step"))
  have hq2 : nfGo (ns.drop z2.toNat) 0 z2 = none → r = none := fun q => by rw [q] at hr; exact hr.symm
  rename Fr g' L' _ _ => FF
  k_dflt (refine' num_B (newsO := newsO) ?kB ?kF ?kX ?kT ?kK ?kN ?kO ?kl ?ki ?kz ?k0 ?k1 rfl ?kd ?ku ?_ ?rs; (case kB => k_asm); (case kF => exact FF); (case kX => k_asm); (case kT => k_asm); (case kK => exact rfl); (case kN => k_asm); (case kO => exact fun q => off_push (O1 (hq2 q)) FF rfl); (case kl => is_list); (case ki => assumption); (case kz => assumption); (case k0 => omega); (case k1 => omega); (case kd => ktr_room); (case ku => ktr_units))
  case rs =>
    intro q e d t h7 tk7 R7 U7
    have hrn := hq2 q
    k_dflt (refine' leave_onD B' FF R7 U7 ?_)
    intro h8 R8 U8
    exact rais hrn e d _ h8 _ R8 ((Heap.UpToSlots.of_keeps (gsub_none kG')).trans U8)
  intro wd' z3 hn2 D5 ta5 tb5 h5 tk5 hz51 hz52 hf51 hf52 F5 N5 ne5 G5
  rw [hn2] at hr
  dsimp only at hr
  replace ne5 := allNe_of ne5; simp only [AllNe, and_true] at ne5
  refine IsSpec.elim hs4 ?_
  intro r0  r1  r2  r3  r4  r5  r6  r7  r8  w0  w6  w7  w8   qEs
  subst qEs
  (repeat' ((fail_if_success (with_reducible show wpAny _ _ (exec (Stmt.If _ _ _ _) _) _ _ _)); walk_at "my step"))
  refine mid_j (fun Qm => ∀ pr' z4 h' tk' mq tz es', (if z3 < (ns.length : Int) ∧ ns.getD z3.toNat 0 = 46 then nfGo (ns.drop (z3 + 1).toNat) 0 (z3 + 1) else some (-1, z3)) = some (pr', z4) → IsSpec w.params es' (if cc then f0 - 1 else -1) l2 p2 b2 n2 m2 wd' pr' (Str.ofString "") → Fr g' L' h' mq → mq (Str.ofString "spec") = some (.ref x) → mq (Str.ofString "codes") = some (.ref lc) → mq (Str.ofString "at") = some (.int z4 tz) → 0 ≤ z4 → z4 ≤ 100000 → News g' L' h' [(x, instObj 51 dx), (dx, dictOf es' 9)] → Qm .next { s with heap := h', toks := tk' }) ?_ ?_
  · intro Qm hQm
    (repeat' (walk_at "my step"))
    · have hy : z3 < (ns.length : Int) ∧ ns.getD z3.toNat 0 = 46 := ⟨by assumption, by assumption⟩
      have hq3 : nfGo (ns.drop (z3 + 1).toNat) 0 (z3 + 1) = none → r = none := fun q => by rw [if_pos hy, q] at hr; exact hr.symm
      rename Fr g' L' _ _ => FF
      k_dflt (refine' num_B (newsO := newsO) ?kB ?kF ?kX ?kT ?kK ?kN ?kO ?kl ?ki ?kz ?k0 ?k1 rfl ?kd ?ku ?_ ?rs; (case kB => k_asm); (case kF => exact FF); (case kX => k_asm); (case kT => k_asm); (case kK => exact rfl); (case kN => k_asm); (case kO => exact fun q => off_push (O1 (hq3 q)) FF rfl); (case kl => is_list); (case ki => assumption); (case kz => assumption); (case k0 => omega); (case k1 => omega); (case kd => ktr_room); (case ku => ktr_units))
      case rs =>
        intro q e d t h7 tk7 R7 U7
        have hrn := hq3 q
        k_dflt (refine' leave_onD B' FF R7 U7 ?_)
        intro h8 R8 U8
        exact rais hrn e d _ h8 _ R8 ((Heap.UpToSlots.of_keeps (gsub_none kG')).trans U8)
      intro pr' z4 hn3 D7 ta7 tb7 h7 tk7 hz71 hz72 hf71 hf72 F7 N7 ne7 G7
      replace ne7 := allNe_of ne7; simp only [AllNe, and_true] at ne7
      (repeat' (walk_at "my step"))
      rename Fr g' L' _ _ => F8
      rename News g' L' _ _ => N8
      exact hQm pr' z4 _ _ _ _ _ (by rw [if_pos hy]; exact hn3) IsSpec.of F8 (by first | exact rfl | assumption) (by first | exact rfl | assumption) (by first | exact rfl | assumption) (by omega) (by omega) (news_sub N8 (by lcg_sub))
    all_goals (
      rename Fr g' L' _ _ => F8
      rename News g' L' _ _ => N8
      exact hQm (-1) z3 _ _ _ _ _ (if_neg (by rintro ⟨y1, y2⟩; contradiction)) IsSpec.of F8 (by first | exact rfl | assumption) (by first | exact rfl | assumption) (by first | exact rfl | assumption) (by omega) (by omega) (news_sub N8 (by lcg_sub)))
  rintro pr' z4 h6 tk6 mq6 tz6 es6 hn3 hs6 F6 e1 e2 e3 hz60 hz61 N6
  refine IsSpec.elim hs6 ?_
  intro o0  o1  o2  o3  o4  o5  o6  o7  o8  v0  v6  v7  v8   qEs
  subst qEs
  (try dsimp only)
  rw [hn3] at hr
  dsimp only at hr
  by_cases hz4 : z4 < (ns.length : Int)
  · rw [if_pos hz4] at hr
    have hcc2 := hc _ _ _ _ _ _ hr.symm
    (repeat' ((fail_if_success (with_reducible show wpAny _ _ (call (Value.builtin _) _) _ _ _)); walk_at "my step"))
    (repeat' (walk_at "my step"))
    all_goals first
      | (exfalso; first | contradiction | omega)
      | skip
    rename News h₀ L _ _ => N9
    have kG9 : GSub s.heap _ [] := gsub_fr kG' (by assumption)
    refine ret _ _ _ _ _ _ hr.symm _ x dx _ _ _ _ IsSpec.of (by k_asm) (news_cons (news_sub N9 (by lcg_sub)) (news_cons (news_sub N9 (by lcg_sub)) (news_cons (news_sub N9 (by lcg_sub)) (gsub_news N0 kG9)))) ?_ ?_ ?_ l1 ?_ kG9
    · exact new_ne kG' (by rename News g' L' _ _ => N10; exact N10) (by k_mem) N0 (by simp)
    · exact new_ne kG' (by rename News g' L' _ _ => N10; exact N10) (by k_mem) N0 (by simp)
    · exact new_ne kG' (by rename News g' L' _ _ => N10; exact N10) (by k_mem) N0 (by simp)
    · refine ltN ?_; omega
  · rw [if_neg hz4] at hr
    have hrn : r = none := hr.symm
    have O1 := O1 hrn
    (repeat' ((fail_if_success (with_reducible show wpAny _ _ (exec (Stmt.Raise _ _ _) _) _ _ _)); walk_at "my step"))
    all_goals first
      | (exfalso; first | contradiction | omega)
      | skip
    refine Raise_E (by k_dflt (exact rfl)) ?_
    (repeat' ((fail_if_success (with_reducible show wpAny _ _ (call (.ref 31) _) _ _ _)); walk_at "my step"))
    rename Fr g' L' _ _ => FF
    k_dflt (refine' exc_K (news := []) ?kB ?kF ?kX ?kT ?kK ?kN ?kd ?ku ?_; (case kB => k_asm); (case kF => exact FF); (case kN => exact News.nil); (case kX => k_asm); (case kT => k_asm); (case kK => exact rfl); (case kd => ktr_room); (case ku => ktr_units))
    intro e d t h7 tk7 F7 N7 he hs7 hen hdn heL hne
    refine ⟨e, d, t, rfl, (cls31 X').keeps F7.keep, he, ?_⟩
    k_dflt (refine' leave_raiseD (news := newsO) B' F7 (off_ne (off_push O1 F7 rfl) (fun q hq => (O1 q hq).1) hen) he rfl rfl rfl rfl rfl hen hs7 hdn ?_ rfl)
    intro h8 R8 U8
    exact rais hrn e d _ h8 _ R8 ((Heap.UpToSlots.of_keeps (gsub_none kG')).trans U8)
theorem read_K {news : List (Addr × Obj)} {lc : Addr} {vs : List Value} {ns : List Int} {k : Int} {tk0 : Tok} {f wd pr c z : Int} {bl bp bb bn bm : Bool}
    (N0 : News h₀ L s.heap news) (hl : s.heap.IsList lc vs.toArray) (hi : IntsAre vs ns) (hlen : ns.length ≤ 10000) (k0 : 0 ≤ k) (k1 : k ≤ 10000)
    (hr : rsGo ns k = some (f, (bl, bp, bb, bn, bm), wd, pr, c, z)) (hc0 : 32 ≤ c) (hc1 : c < 127)
    (hd : dp + 20 < recursionLimit) (hu : un + 160 < cLine)
    (ret : ∀ D x dx es t h' tk', IsSpec w.params es f bl bp bb bn bm wd pr ⟨#[c.toNat]⟩ → Fr h₀ L h' m →
      News h₀ L h' ((D, { cls := .type "tuple", data := .seq [.ref x, .int z t].toArray }) :: (x, instObj 51 dx) :: (dx, dictOf es 9) :: news) →
      (∀ p ∈ news, p.1 ≠ D) → (∀ p ∈ news, p.1 ≠ x) → (∀ p ∈ news, p.1 ≠ dx) → dx < x → x < D → GSub s.heap h' [] → Q (.ref D) { s with heap := h', toks := tk' }) :
    wpAny (model prog w) (ktrTop dp un gd cn cs L a ccd cl outer) (call (.ref 76) [.ref lc, .int k tk0]) Q E s :=
  read_B B F X T hk (newsO := []) (r := some (f, (bl, bp, bb, bn, bm), wd, pr, c, z)) N0 (fun q => by cases q) hl hi hlen k0 k1 hr (fun _ _ _ _ _ _ e => by cases e; exact ⟨hc0, hc1⟩) hd hu (fun _ _ _ _ _ _ e => by cases e; exact ret) (fun q => by cases q)
theorem read_raise_K {news : List (Addr × Obj)} {lc : Addr} {vs : List Value} {ns : List Int} {k : Int} {tk0 : Tok}
    (O0 : Off base (envX cn cs L a ccd cl :: outer) s.heap news) (hl : s.heap.IsList lc vs.toArray) (hi : IntsAre vs ns) (hlen : ns.length ≤ 10000) (k0 : 0 ≤ k) (k1 : k ≤ 10000)
    (hr : rsGo ns k = none) (hdp : dp + 20 < recursionLimit) (hu : un + 160 < cLine)
    (ret : ∀ e d t h' tk', RaisedD base (envX cn cs L a ccd cl :: outer) e d (.str (Str.ofString "error") t) news h' → s.heap.UpToSlots h' → E (.ref e) { s with heap := h', toks := tk' }) :
    wpAny (model prog w) (ktrTop dp un gd cn cs L a ccd cl outer) (call (.ref 76) [.ref lc, .int k tk0]) Q E s :=
  read_B B F X T hk (news := []) (r := none) News.nil (fun _ => O0) hl hi hlen k0 k1 hr (fun _ _ _ _ _ _ e => nomatch e) hdp hu (fun _ _ _ _ _ _ e => nomatch e) (fun _ => ret)
end
end Mine
end
section
namespace Mine
open PySem PySem.W PySem.Calls PyProof.Rows
theorem off_P8 : True := by
  w_top off
  trivial
theorem striter_st {h₀ : Heap} {L I : Addr} {T : String} {tx : Str} {t : Tok} : ∀ i (h h' : Heap) (o : Obj) (nw : List (Addr × Obj)), h.IsStrIter I T tx t i → h.get? I = some o → h'.get? I = some o → (∀ b o, h₀.get? b = some o → h'.get? b = some o) → News h₀ L h' nw → True → h'.IsStrIter I T tx t i :=
  fun i h h' o nw st e e' _ _ _ => by
    obtain ⟨o', q, r⟩ := st
    rw [e] at q; cases q
    exact ⟨o, e', r⟩
def StrSrc (prog : Program) (w : World) (A : Around) (h₀ : Heap) (L : Addr) (m : Str → Option Value) (env : Env) (elt : Expr) (x : Str) (scope : Scope) (cl : List (Str × Addr)) (Q : Value → Shared → Prop) (xv : Value) (s₁ : Shared) : Prop :=
  ∃ tx t news, xv = .str tx t ∧ A.handled = none ∧ Fr h₀ L s₁.heap m ∧ News h₀ L s₁.heap news ∧ tx.cps.size ≤ sizeLine ∧
    ∀ g, LCg.CompRest prog w A h₀ L m env elt x scope cl { s₁ with heap := g } (fun _ => True) (SignAt tx) (LCg.FinE h₀ L m { s₁ with heap := g } Q) tx.cps.size 0 [] news
theorem StrSrc.intro {prog : Program} {w : World} {A : Around} {h₀ : Heap} {L : Addr} {m : Str → Option Value} {env : Env} {elt : Expr} {x : Str} {scope : Scope} {cl : List (Str × Addr)} {Q : Value → Shared → Prop} {tx : Str} {t : Tok} {s₁ : Shared} {news : List (Addr × Obj)}
    (hh : A.handled = none) (F : Fr h₀ L s₁.heap m) (N : News h₀ L s₁.heap news) (hsz : tx.cps.size ≤ sizeLine)
    (h : ∀ g, LCg.CompRest prog w A h₀ L m env elt x scope cl { s₁ with heap := g } (fun _ => True) (SignAt tx) (LCg.FinE h₀ L m { s₁ with heap := g } Q) tx.cps.size 0 [] news) :
    StrSrc prog w A h₀ L m env elt x scope cl Q (.str tx t) s₁ := ⟨tx, t, news, rfl, hh, F, N, hsz, h⟩
theorem comp_str {prog : Program} {w : World} {A : Around} {E : Value → Shared → Prop} {s : Shared} {h₀ : Heap} {L : Addr} {m : Str → Option Value} {env : Env} {elt iter : Expr} {x : Str} {px : Pos} {scope : Scope} {cl : List (Str × Addr)} {pos : Pos} {Q : Value → Shared → Prop} (F₀ : Fr h₀ L s.heap m)
    (hclos : closureFor scope env = pure cl) (hcell : ∀ y ∈ scope.names, y.2 ≠ .cell) (hkind : scope.kind = .function)
    (hnames : ∀ y ∈ scope.names, y.2 = .local → scope.names.lookup y.1 = some .local) (hx : scope.names.lookup x = some .local)
    (h : wpAny (model prog w) A (eval iter env) (StrSrc prog w A h₀ L m env elt x scope cl Q) E s)
    (hs : ∀ x, foldedSetIterable iter env x = pure x) :
    wpAny (model prog w) A (eval (.ListComp elt [⟨.Name x px, iter, [], 0⟩] scope pos) env) Q E s := by
  rw [eval_ListComp]
  refine wpAny_comprehension_free (use := none) rfl hs hclos hkind hnames (wpAny_mono h (fun xv s₁ h₁ => ?_) fun _ _ e => e)
  obtain ⟨tx, t, news, rfl, hh, F, N, hsz, R⟩ := h₁
  cases ha : tx.cps.all (· < 128)
  · refine wpAny_pyIter_wide ha ?_
    refine LCg.block_U (Walks.strWide hh s₁.heap.objs.size tx t) hsz (fun i h st => by obtain ⟨o, e, _⟩ := st; exact ⟨o, e⟩) striter_st hcell hkind hx ⟨_, Heap.get?_push_size _ rfl, rfl, rfl⟩ (fun b hb => by rw [List.mem_singleton.mp hb]; show s₁.heap.objs.size < (s₁.heap.push _).objs.size; rw [Heap.size_push]; exact Nat.lt_succ_self _)
      (F.keeps fun _ _ e => Heap.get?_push_of_some _ e) (N.grown fun _ _ e => Heap.get?_push_of_some _ e) (Nat.ne_of_lt F.ns.lt) (next_is_new F) (fun p hp => Nat.ne_of_lt (Heap.lt_size (N p hp).1)) trivial (R _) ?_
    intro D C h tk m' ys news' F' N' o1 hn hC₀ hD₀ hCL hDL hCD offC fin
    refine ⟨m', hn, fun h'' hs'' => fin D h'' tk (F'.change hs'' hCL hC₀) (fun p hp => ?_) o1⟩
    refine ⟨hs''.extBut _ _ ?_ (N' p hp).1, (N' p hp).2⟩
    rcases List.mem_cons.mp hp with rfl | hp
    · exact Ne.symm hCD
    · exact offC p hp
  · refine wpAny_pyIter_ascii ha ?_
    refine LCg.block_U (Walks.strAscii hh s₁.heap.objs.size tx t) hsz (fun i h st => by obtain ⟨o, e, _⟩ := st; exact ⟨o, e⟩) striter_st hcell hkind hx ⟨_, Heap.get?_push_size _ rfl, rfl, rfl⟩ (fun b hb => by rw [List.mem_singleton.mp hb]; show s₁.heap.objs.size < (s₁.heap.push _).objs.size; rw [Heap.size_push]; exact Nat.lt_succ_self _)
      (F.keeps fun _ _ e => Heap.get?_push_of_some _ e) (N.grown fun _ _ e => Heap.get?_push_of_some _ e) (Nat.ne_of_lt F.ns.lt) (next_is_new F) (fun p hp => Nat.ne_of_lt (Heap.lt_size (N p hp).1)) trivial (R _) ?_
    intro D C h tk m' ys news' F' N' o1 hn hC₀ hD₀ hCL hDL hCD offC fin
    refine ⟨m', hn, fun h'' hs'' => fin D h'' tk (F'.change hs'' hCL hC₀) (fun p hp => ?_) o1⟩
    refine ⟨hs''.extBut _ _ ?_ (N' p hp).1, (N' p hp).2⟩
    rcases List.mem_cons.mp hp with rfl | hp
    · exact Ne.symm hCD
    · exact offC p hp
end Mine
end
section
set_option Elab.async false
set_option maxRecDepth 100000
set_option linter.unusedVariables false
namespace Mine
theorem off_X9 : True := by
  w_top off
  trivial
local macro_rules | `(tactic| walk_at "none") => `(tactic| skip)
open PySem Builtin Builtin.ObjectAttr
section
variable {prog : Program} {w : World} {A : Around} {E : Value → Shared → Prop} {h : Heap} {g : Array GenState} {d : Drawn} {t : Nat} {os : OsState} {a dx : Addr} {o : Obj}
  {nm q : Str} {C N : Addr} {bs bm : List Value} {sn : List Str} {sub : List Value} {ab : Bool} {col : Option Bool} {dd : Option Addr} {k0 k1 k2 k3 k5 : Option Value} {B newId : String} {mN mA : Str → Option Value} {name : Str} {v : Value}
theorem sym_entry {tk : Tok} {Q : Fin → Shared → Prop} (FB : ExcAttrBase B bm) (hC : h.get? C = some (excClassObj nm q C N bs bm true sn sub ab col dd k0 k1 k2 k3 k5 newId)) (hN : h.Ns N mN) (hna : mN name = none) (hB : typeLookup (.type B) name = pure none)
    (hx : h.get? a = some o) (hc : o.cls = .ref C) (hnc : ∀ c, o.data ≠ .cls c) (hdx : o.dict = some dx) (hns : h.Ns dx mA) (hv : mA name = some v) (hq : Q (.done (.ret v)) ⟨h, g, d, t, os⟩) :
    wpAny (model prog w) A (Builtin.«object.__getattribute__» ⟨[.ref a, .str name tk], []⟩) Q E ⟨h, g, d, t, os⟩ := by
  have hm := FB.mro
  unfold Builtin.«object.__getattribute__»
  repeat (first | (with_reducible refine wpAny_loadPart_at hx ?_; rw [hc]) | (with_reducible refine wpAny_typeLookup_exc hC hN hm hB ?_; rw [hna]) | wp_step)
  split
  · rename_i c hcd
    exact absurd hcd (hnc c)
  unfold instanceDict
  repeat (first | (with_reducible refine wpAny_loadPart_at hx ?_; rw [hc]) | with_reducible refine wpAny_loadPart_at hC ?_ | wp_step)
  rw [hdx]
  repeat (first | (with_reducible refine wpAny_nsGet hns ?_; rw [hv]) | wp_step)
  exact hq
theorem check_ga {M : Model} {nameV : Value} {Q : Unit → Shared → Prop} (FB : ExcAttrBase B bm) (hC : h.get? C = some (excClassObj nm q C N bs bm true sn sub ab col dd k0 k1 k2 k3 k5 newId))
    (hx : h.get? a = some o) (hc : o.cls = .ref C) (hq : Q () ⟨h, g, d, t, os⟩) : wpAny M A (checkBuiltinCall "BaseException.__getattribute__" ⟨[.ref a, nameV], []⟩) Q E ⟨h, g, d, t, os⟩ := by
  have hk : builtinKind "BaseException.__getattribute__" = some .slot := by decide +kernel
  have hsplit : splitId "BaseException.__getattribute__" = some ("BaseException", "__getattribute__") := by decide +kernel
  have hcB : (Value.ref C :: bm).contains (.type "BaseException") = true := by rw [List.contains_cons, FB.hasBase, Bool.or_true]
  have ha := PySem.F.args_bexc_ga (.ref a) nameV
  simp only [checkBuiltinCall, hk, hsplit]
  refine wpAny_bind ?_
  · unfold isInstance
    repeat (first | (with_reducible refine wpAny_loadPart_at hx ?_; rw [hc]) | (with_reducible refine wpAny_isSubtype_exc hC ?_; rw [hcB]) | wp_step)
    exact hq
theorem sym_by {tk : Tok} {fill expr : Bool} {Q : Value → Shared → Prop} (FB : ExcAttrBase B bm) (hC : h.get? C = some (excClassObj nm q C N bs bm true sn sub ab col dd k0 k1 k2 k3 k5 newId)) (hN : h.Ns N mN) (hna : mN name = none) (hga : mN "__getattribute__" = none) (hgt : mN "__getattr__" = none) (hB : typeLookup (.type B) name = pure none)
    (hx : h.get? a = some o) (hc : o.cls = .ref C) (hnc : ∀ c, o.data ≠ .cls c) (hdx : o.dict = some dx) (hns : h.Ns dx mA) (hv : mA name = some v) (hh : handedOut v = pure v) (hq : Q v ⟨h, g, d, t, os⟩) :
    wpAny (model prog w) A (getAttrBy (.ref a) (.str name tk) fill expr) Q E ⟨h, g, d, t, os⟩ := by
  have hm := FB.mro
  have f3 := FB.ga.bind (.ref a)
  have hx0 : (expr && onTheHeap (Value.builtin "BaseException.__getattribute__")) = false := by cases expr <;> rfl
  have hx2 : (Value.builtin "BaseException.__getattribute__" == Value.builtin "object.__getattribute__") = false := by decide +kernel
  have hx1 : (onTheHeap (Value.ref C) && Value.builtin "BaseException.__getattribute__" == Value.builtin "object.__getattribute__") = false := by rw [hx2]; rfl
  unfold getAttrBy
  repeat (any_goals (first | assumption | (with_reducible refine wpAny_loadPart_at hx ?_; rw [hc]) | (with_reducible refine wpAny_typeLookup_exc hC hN hm FB.ga.lookup ?_; rw [hga]) | (with_reducible refine wpAny_typeLookup_exc hC hN hm FB.noGetattr ?_; rw [hgt]) | wp_step))
  refine codeAny_call_builtin FB.ga.plain PySem.F.entry_bexc_ga (check_ga FB hC hx hc (sym_entry FB hC hN hna hB hx hc hnc hdx hns hv ?_))
  show wpAny _ _ (handedOut v) _ _ _
  rw [hh]
  exact wpAny_pure hq
theorem sym_attr {expr : Bool} {Q : Value → Shared → Prop} (FB : ExcAttrBase B bm) (hC : h.get? C = some (excClassObj nm q C N bs bm true sn sub ab col dd k0 k1 k2 k3 k5 newId)) (hN : h.Ns N mN) (hna : mN name = none) (hga : mN "__getattribute__" = none) (hgt : mN "__getattr__" = none) (hB : typeLookup (.type B) name = pure none)
    (hx : h.get? a = some o) (hc : o.cls = .ref C) (hnc : ∀ c, o.data ≠ .cls c) (hdx : o.dict = some dx) (hns : h.Ns dx mA) (hv : mA name = some v) (hh : handedOut v = pure v) (hq : Q v ⟨h, g, d, t + 1, os⟩) :
    wpAny (model prog w) A (getAttr (.ref a) name expr) Q E ⟨h, g, d, t, os⟩ := by
  unfold getAttr
  repeat (any_goals (first | assumption | with_reducible apply sym_by FB hC hN hna hga hgt hB hx hc hnc hdx hns hv hh | wp_step))
end
end Mine
end
section
set_option Elab.async false
set_option maxRecDepth 100000
set_option linter.unusedVariables false
namespace Mine
open PySem PySem.W PySem.Spec PySem.Calls PyProof.Rows
theorem code_defX {prog : Program} {w : World} {A₀ A : Around} {s : Shared} {base h₀ : Heap} {outer : List Env} {L : Addr} {m : Str → Option Value} {env : Env}
    {K : Frag} {p : Program} {loose : List Str} {mean : ExcName → Option Value} {mg mb : Str → Option Value} {R : Result → Shared → Prop} {name qual : Str} {params : Arguments} {body : List Stmt} {scope : Scope} {dV kV doc pm cdv ct oc : Value} {an od : Option Addr} {osl : Array (Option Value)} {f : Addr} {args : Args} {binds : List (Str × Value)}
    (B : Below A₀ base outer h₀) (F : Fr h₀ L s.heap m) (X₀ : K.In h₀) (T : Top p loose mean mg mb h₀) (hA : A.frames = some (env :: outer)) (hf : env.frame = some L) (hke : env.scope.kind = .function)
    (ho : K.lookup f = some ⟨oc, od, .func (fnOf name qual params body scope dV kV doc pm an cdv ct), osl⟩) (hcd : codeIn K cdv qual = true) (hroom : A.depth < recursionLimit)
    (hbind : BindsTo s (fnOf name qual params body scope dV kV doc pm an cdv ct) args binds) (hloc : ∀ y ∈ binds, scope.names.lookup y.1 = some .local)
    (h : ∀ L' h₁, Fr s.heap L' h₁ (fun y => binds.reverse.lookup y) → Below A base (env :: outer) s.heap → K.In s.heap → Top p loose mean mg mb s.heap →
      wpAny (model prog w) (A.deeper (envOf qual scope L' f cdv)) (execs body (envOf qual scope L' f cdv))
        (fun fl s' => R (.ok (.ret (match fl with | .ret v => v | _ => .none))) s')
        (fun e s' => wpAny (model prog w) (A.deeper (envOf qual scope L' f cdv)) (leaving (envOf qual scope L' f cdv) e) (fun _ s'' => R (.error e) s'') (fun e' s'' => R (.error e') s'') s')
        { s with heap := h₁, toks := s.toks + binds.length })
    (hco : scope.isCoroutine = false) (hgen : scope.isGenerator = false) (hk : scope.kind = .function)
    (hcell : ∀ x ∈ scope.names, x.2 ≠ .cell) : codeAny (model prog w) A (.call (.ref f) args) R s := by
  obtain ⟨FG, BG, st, _⟩ := groundX (R := R) (news := []) B F News.nil hA hf hke
  refine codeAny_call_def (fd := fnX name qual params body scope [] dV kV doc pm an cdv ct) (body := body) (binds := binds) hroom ((X₀.keeps F.keep) _ _ ho) rfl (T.nolimit.keeps F.keep) (codeRec_of (X₀.keeps F.keep) hcd) rfl hbind hcell hloc (fun h₁ hns hk₁ => ?_) hco hgen hk
  exact h s.heap.objs.size h₁ ⟨hns, fun b o e => hk₁ b o e, Nat.le_refl _⟩ BG (X₀.keeps F.keep) (T.keeps F.keep)
theorem ns_uniq {h : Heap} {a : Addr} {m m' : Str → Option Value} (x : h.Ns a m) (y : h.Ns a m') (n : Str) : m n = m' n := by
  obtain ⟨o, es, ep, e, hd, _, r⟩ := x
  obtain ⟨o', es', ep', e', hd', _, r'⟩ := y
  rw [e] at e'; cases e'
  rw [hd] at hd'; cases hd'
  rw [← r n, ← r' n]
theorem hbaseE : bmE.contains (.type "BaseException") = true := by decide +kernel
section
variable {prog : Program} {w : World} {A₀ : Around} {E : Value → Shared → Prop} {s' : Shared} {h₀ h : Heap} {outer : List Env} {L a e d : Addr} {m : Str → Option Value} {name : Str} {scope : Scope} {cd : Value}
  {sv : Value} {n : Str} {b₀ : Stmt} {suite : List Stmt} {pos np : Pos} {rest : List ExceptHandler} {Q : Flow → Shared → Prop} {news : List (Addr × Obj)} {KF : Frag}
  {p : Program} {loose : List Str} {mg mb : Str → Option Value} {x : Str} {Lc : Addr} {mc : Str → Option Value}
theorem caught_D (hst : A₀.frames = some outer) (F : Fr h₀ L h m) (hms : m "symbol" = none) (hsm : h.UpToSlots s'.heap) (R : RaisedD h₀ (envOf name scope L a cd :: outer) e d sv news s'.heap)
    (X : KF.In h₀) (T : TopRead p loose mg mb h₀) (ex : nsIn KF mainGlobals x = some (some (.ref 31))) (q : clsEIn KF 31 = true) (hLc : h.Ns Lc mc) (nLc : Lc ≠ L) (gLc : h₀.get? Lc = none)
    (k : ∀ h' tk oe od oc mA, Fr h₀ L h' (fun y => if y = n then some (.ref e) else m y) → News h₀ L h' ((e, oe) :: (d, od) :: (Lc, oc) :: news) → oe.cls = .ref 31 → oe.dict = some d → (∀ c, oe.data ≠ .cls c) → LCg.NsObj od mA → mA "symbol" = some sv → LCg.NsObj oc mc →
      wpAny (model prog w) ((A₀.deeper (envOf name scope L a cd)).mark (some (.ref e))) (execs (b₀ :: suite) (envOf name scope L a cd))
        (fun f s₄ => wpAny (model prog w) (A₀.deeper (envOf name scope L a cd)) (do bindName (envOf name scope L a cd) n .none; unbindBehindTheSuite (envOf name scope L a cd) n pos) (fun _ s₅ => Q f s₅) E s₄)
        (AsSuiteRaised (model prog w) ((A₀.deeper (envOf name scope L a cd)).mark (some (.ref e))) (envOf name scope L a cd) n pos (notedBy (model prog w) ((A₀.deeper (envOf name scope L a cd)).mark (some (.ref e))) (envOf name scope L a cd) (cameBackBy (model prog w) (A₀.deeper (envOf name scope L a cd)) (envOf name scope L a cd) E)))
        { s' with heap := h', toks := tk })
    (hk : scope.kind = .function) (hlo : (envOf name scope L a cd).kindOf n = some .local) (hx : (envOf name scope L a cd).kindOf x = some .globalImplicit) (hdd : (x == ("__debug__" : Str)) = false) :
    wpAny (model prog w) (A₀.deeper (envOf name scope L a cd)) (noteFrame (.ref e) (envOf name scope L a cd))
      (fun _ s₂ => wpAny (model prog w) (A₀.deeper (envOf name scope L a cd)) (setFlight (.ref e) none) (fun _ s₃ =>
        wpAny (model prog w) (A₀.deeper (envOf name scope L a cd)) (handleBy (.ref e) (envOf name scope L a cd) (.ExceptHandler (some (.Name x np)) (some n) (b₀ :: suite) pos :: rest)) Q E s₃) E s₂) E s' := by
  obtain ⟨⟨B, a0, hB, hl, hfl⟩, hd, hs, hdn⟩ := R
  have hL : B.get? L = none := by
    obtain ⟨_, ⟨L', _, hf, hn', _⟩, _⟩ := hfl.2.2.1
    obtain rfl : L = L' := Option.some.inj hf
    exact hn'
  refine kd_any (kd_note _ _) (wpAny_looks_onW (Q := fun _ s₄ => (Heap.HeldW B (envOf name scope L a cd :: outer) e (.ref 31) a0 L s₄.heap ∧ s'.heap.UpToSlots s₄.heap) ∧ s₄ = { s' with heap := s₄.heap }) (Around.frames_deeper hst) rfl hfl fun h' x1 x2 => ⟨⟨x1, x2⟩, rfl⟩) fun _ s₄ ⟨⟨hheld₄, hsm₄⟩, e₄⟩ k₄ => ?_
  refine kd_any (kd_setFlight _ _) (wpAny_landsW (Q := fun _ s₅ => (Heap.FlyingW B (envOf name scope L a cd :: outer) e (.ref 31) a0 s₅.heap ∧ s₄.heap.UpToSlots s₅.heap) ∧ s₅ = { s₄ with heap := s₅.heap }) hheld₄ fun h' x1 x2 => ⟨⟨x1, x2⟩, rfl⟩) fun _ s₅ ⟨⟨hheld, hsm₅'⟩, e₅⟩ k₅ => ?_
  have hsm₅ := hsm₄.trans hsm₅'
  have hheld' := flyingW_base hB hheld
  have F₅ := F.of_stays hheld'.1 (hsm.trans hsm₅)
  obtain ⟨ob, hob, hobc⟩ := hheld'.there
  have hs5 : s₅ = { s' with heap := s₅.heap } := by rw [e₅, e₄]
  refine wpAny_handleBy_cons (codeAny_handlers_test (name_K F₅ X T ex ?_ hk hx hdd)) (by intro q; cases q)
  refine ClsE.elim ((clsE_of X q).keeps F₅.keep) ?_
  intro nm qn N bs sn sub ab col dd k0 k1 k2 k3 k5 mN hC hN _ _ _ _ _
  refine wpAny_excMatches_sub_self hC hob hobc hbaseE (codeAny_handlers_suite_as ?_)
  refine kd_any (kd_setFlight _ _) (lands_againW (Q := fun _ s₆ => (Heap.FlyingW B (envOf name scope L a cd :: outer) e (.ref 31) a0 s₆.heap ∧ s₅.heap.UpToSlots s₆.heap) ∧ s₆ = { s₅ with heap := s₆.heap }) hheld fun h' x1 x2 => ⟨⟨x1, x2⟩, rfl⟩) fun _ s₆ ⟨⟨hfl₆, hsm₆⟩, e₆⟩ k₆ => ?_
  have hfl₆' := flyingW_base hB hfl₆
  have up6 := (hsm₅.trans hsm₆)
  have F₆ := F.of_stays hfl₆'.1 (hsm.trans up6)
  obtain ⟨oe, ws, hoe, hoec, hoed, hoe0⟩ := hfl₆'.first
  obtain ⟨oe', hoe', hdd'⟩ := dictOf_dk (dictOf_dk (dictOf_dk hd k₄) k₅) k₆
  rw [hoe] at hoe'; cases hoe'
  obtain ⟨mA, hnsA, hmA⟩ := symOf_up hs up6
  obtain ⟨od, hod, hodn⟩ := LCg.ns_obj hnsA
  obtain ⟨oc, hoc, hocn⟩ := LCg.ns_obj ((hsm.trans up6).ns hLc)
  have hdL : d ≠ L := fun z => by
    have y := ns_uniq F₆.ns (z ▸ hnsA) "symbol"
    rw [hms, hmA] at y; cases y
  have heL : e ≠ L := fun z => by
    obtain ⟨oL, es, ep, f1, f2, _⟩ := F₆.ns
    rw [← z, hoe] at f1; cases f1
    rw [hoed] at f2; cases f2
  have N6 : News h₀ L s₆.heap ((e, oe) :: (d, od) :: (Lc, oc) :: news) := by
    intro r hr
    rcases List.mem_cons.mp hr with rfl | hr
    · exact ⟨hoe, heL, hfl₆'.2.1⟩
    rcases List.mem_cons.mp hr with rfl | hr
    · exact ⟨hod, hdL, hdn⟩
    rcases List.mem_cons.mp hr with rfl | hr
    · exact ⟨hoc, nLc, gLc⟩
    exact ⟨hfl₆.1 _ _ (hl r hr).1, (fun z => by have := (hl r hr).1; rw [z, hL] at this; cases this), (hl r hr).2⟩
  have hs6 : s₆ = { s' with heap := s₆.heap } := by rw [e₆, e₅, e₄]
  refine stN F₆ N6 (fun h₇ F₇ N₇ => ?_) hk hlo
  rw [hs6]
  exact k h₇ _ oe od oc mA F₇ N₇ hoec hdd' (fun c z => by rw [hoed] at z; cases z) hodn hmA hocn
end
end Mine
end
section
set_option Elab.async false
set_option maxRecDepth 100000
set_option pp.maxSteps 250
set_option pp.deepTerms false
set_option linter.unusedVariables false
namespace Mine
open PySem PySem.W PySem.Spec PySem.Calls PyProof.Rows
theorem off_X8 : True := by
  w_top off
  trivial
theorem fillNow_X8 : (fun (_ : OpenLaw) (_ : Params → Frag) => True) PySem.Challenge.rw_oj0017_01 hd.heap_39 := by
  k_fill; trivial
local macro_rules | `(tactic| k_room) => `(tactic| ktr_room)
section
variable {prog : Program} {w : World} {mg mb : Str → Option Value} {p : Program} {loose : List Str} {mean : ExcName → Option Value}
variable {dp un : Nat} {gd : Option (List Code)} {cn : Str} {cs : Scope} {a : Addr} {ccd : Value} {cl : List (Str × Addr)} {outer : List Env} {A₀ : Around} {base h₀ : Heap} {L : Addr} {m : Str → Option Value} {s : Shared} {Q E : Value → Shared → Prop}
variable (B : Below A₀ base outer h₀) (F : Fr h₀ L s.heap m) (X : (hd.heap_39 w.params).In h₀) (T : Top p loose mean mg mb h₀) (hk : cs.kind = .function)
include B F X T hk
set_option maxHeartbeats 8000000
set_option maxHeartbeats 40000000
omit B F X T hk in
theorem take_snoc {x : Array Nat} {i c : Nat} (h : x[i]? = some c) : x.toList.take (i + 1) = x.toList.take i ++ [c] := by
  rw [List.take_add_one, Array.getElem?_toList, h]; rfl
theorem refusedT_K {news : List (Addr × Obj)} {tx : Str} {tk : Tok} (hb : h₀ = base) (ho : [] = outer) (N0 : News h₀ L s.heap news) (htx : tx.cps.size ≤ 6000) (hr : rsGo (tx.cps.toList.map fun (c : Nat) => (c : Int)) 0 = none)
    (hdp : dp + 30 < recursionLimit) (hu : un + 300 < cLine)
    (ret : ∀ h' tk', Fr h₀ L h' m → News h₀ L h' news → Q (.bool true) { s with heap := h', toks := tk' }) :
    wpAny (model prog w) (ktrTop dp un gd cn cs L a ccd cl outer) (call (.ref 135) [.str tx tk]) Q E s := by
  subst hb
  subst ho
  have O0 := off_of (env := envX cn cs L a ccd cl) B N0 rfl
  refine wpAny_call ?_
  k_dflt (refine' code_defX ?k1 ?k2 ?k3 ?k5 ?kA ?kF ?kK ?k6 ?k7 ?k8 ?k9 ?kB ?_ ?c2 ?c3 ?c4 ?c5; (case kA => exact rfl); (case kF => exact rfl); (case kK => assumption); (case k1 => k_asm); (case k2 => k_asm); (case k3 => k_asm); (case k5 => k_asm); (case k6 => k_is); (case k7 => k_is); (case k8 => ktr_room); (case k9 => exact BindsTo.of_eq rfl); (case c5 => decide); (case kB => exact locs rfl); (case c2 => exact rfl); (case c3 => exact rfl); (case c4 => exact rfl); k_whole)
  intro L' h' F' B' X' T'
  have N' : News s.heap L' h' [] := News.nil
  (try dsimp only)
  (try k_fold)
  (repeat' ((fail_if_success (with_reducible show wpAny _ _ (eval (Expr.ListComp _ _ _ _) _) _ _ _)); walk_at "my step"))
  rename Fr s.heap L' _ _ => F1
  k_dflt (refine comp_str F1 (by with_unfolding_all rfl) (by decide) (by rfl) (by decide) (by rfl) ?_ (by intro _; rfl))
  (repeat' (walk_at "my step"))
  rename Fr s.heap L' _ _ => F2
  k_dflt (refine StrSrc.intro (news := []) rfl F2 News.nil (by rw [sizeLine_eq]; omega) fun g => ?_)
  refine comp_inv (fun i ys nw => nw = [] ∧ IntsAre ys ((tx.cps.toList.take i).map fun (c : Nat) => (c : Int))) ⟨rfl, .nil⟩ ?_ ?_
  · intro i v ys nw I oI C oC D m₂ h tk E' hin hv hJ hC hx F9 N9 off ne
    refine aside ?_
    intro gA hA
    obtain ⟨rfl, hys⟩ := hJ
    refine hA ?_
    clear hA gA
    refine aside ?_
    intro gA hA
    obtain ⟨c, u, hc, rfl⟩ := hv
    refine hA ?_
    clear hA gA
    have off0 := off
    simp only [LCg.Off3] at off
    (repeat' (walk_at "my step"))
    rw [take_snoc hc, List.map_append]
    exact IntsAre.append hys (.cons _ _ .nil)
  · intro ys nw hJ
    refine aside ?_
    intro gA hA
    obtain ⟨rfl, hys⟩ := hJ
    refine hA ?_
    clear hA gA
    rw [List.take_of_length_le (by simp)] at hys
    intro D h2 tk2 F3 N3 o3
    (repeat' ((fail_if_success (with_reducible show wpAny _ _ (call (Value.ref 76) _) _ _ _)); walk_at "my step"))
    k_dflt (refine' read_raise_K (news := news) ?kB ?kF ?kX ?kT ?kK ?kN ?kl ?ki ?kz ?k0 ?k1 ?kr ?kd ?ku ?_; (case kB => exact B'); (case kF => exact F3); (case kX => exact X'); (case kT => exact T'); (case kK => exact rfl); (case kN => exact off_push O0 F3 rfl); (case kl => is_list); (case ki => exact hys); (case kz => simp; omega); (case kr => exact hr); (case k0 => omega); (case k1 => omega); (case kd => ktr_room); (case ku => ktr_units))
    intro e d t h7 tk7 R7 U7
    have F4 : Fr h₀ L' h2 _ := ⟨F3.ns, fun b o e => F3.keep _ _ (F.keep b o e), Nat.le_trans (Nat.le_trans F.above (Nat.le_of_lt (lt_of_ns F.ns))) F3.above⟩
    have nLL : L ≠ L' := Nat.ne_of_lt (Nat.lt_of_lt_of_le (lt_of_ns F.ns) F3.above)
    have nsL : h2.Ns L m := F.ns.keeps F3.keep
    k_dflt (refine' caught_D (mc := m) ?hst F4 ?hms U7 R7 X ?T ?ex ?q nsL nLL ?gL ?_ rfl rfl rfl (by decide); (case hst => exact rfl); (case hms => exact rfl); (case T => k_asm); (case ex => k_is); (case q => kernel_rfl); (case gL => exact Heap.get?_none_of_le F.above); k_whole)
    intro h8 tk8 oe od oc mA F8 N8 hoc hod hocl hns hsym hnsl
    (try dsimp only)
    (repeat' (walk_at "my step"))
    rename Fr h₀ L' _ _ => F9
    rename News h₀ L' _ _ => N9
    refine aside ?_
    intro gA hA
    refine ClsE.elim ((cls31 X).keeps F9.keep) ?_
    intro nm q N31 bs sn sub ab col dd k0 k1 k2 k3 k5 mN hC hN hsa hsy hda hga hgt
    refine hA ?_
    clear hA gA
    refine sym_attr PySem.F.attrBase_Exception hC hN hsy hga hgt sym_none (N9 _ (.head _)).1 hoc hocl hod (hns.ns (N9 _ (.tail _ (.head _))).1) hsym rfl ?_
    clear hC hN
    (repeat' (walk_at "my step"))
    rename Fr h₀ L' _ _ => F10
    rename News h₀ L' _ _ => N10
    have e1 : (Str.ofString "error" == Str.ofString "error") = true := by decide
    rw [e1]
    exact ret _ _ ⟨hnsl.ns (N10 _ (.tail _ (.tail _ (.head _)))).1, F10.keep, F.above⟩ fun r hr => ⟨(N10 r (.tail _ (.tail _ (.tail _ hr)))).1, (N0 r hr).2⟩
theorem refusedF_K {news : List (Addr × Obj)} {tx : Str} {tk : Tok} {f wd pr c z : Int} {bl bp bb bn bm : Bool} (N0 : News h₀ L s.heap news) (htx : tx.cps.size ≤ 6000) (hr : rsGo (tx.cps.toList.map fun (c : Nat) => (c : Int)) 0 = some (f, (bl, bp, bb, bn, bm), wd, pr, c, z)) (hc0 : 32 ≤ c) (hc1 : c < 127)
    (hdp : dp + 30 < recursionLimit) (hu : un + 300 < cLine)
    (ret : ∀ h' tk', Fr h₀ L h' m → News h₀ L h' news → Q (.bool false) { s with heap := h', toks := tk' }) :
    wpAny (model prog w) (ktrTop dp un gd cn cs L a ccd cl outer) (call (.ref 135) [.str tx tk]) Q E s := by
  have N : News h₀ L s.heap [] := News.nil
  refine wpAny_call ?_
  k_dflt (walk_at "my enter")
  (repeat' ((fail_if_success (with_reducible show wpAny _ _ (eval (Expr.ListComp _ _ _ _) _) _ _ _)); walk_at "my step"))
  rename Fr g' L' _ _ => F1
  k_dflt (refine comp_str F1 (by with_unfolding_all rfl) (by decide) (by rfl) (by decide) (by rfl) ?_ (by intro _; rfl))
  (repeat' (walk_at "my step"))
  rename Fr g' L' _ _ => F2
  k_dflt (refine StrSrc.intro (news := []) rfl F2 News.nil (by rw [sizeLine_eq]; omega) fun g => ?_)
  refine comp_inv (fun i ys nw => nw = [] ∧ IntsAre ys ((tx.cps.toList.take i).map fun (c : Nat) => (c : Int))) ⟨rfl, .nil⟩ ?_ ?_
  · intro i v ys nw I oI C oC D m₂ h tk E' hin hv hJ hC hx F9 N9 off ne
    refine aside ?_
    intro gA hA
    obtain ⟨rfl, hys⟩ := hJ
    refine hA ?_
    clear hA gA
    refine aside ?_
    intro gA hA
    obtain ⟨c, u, hc, rfl⟩ := hv
    refine hA ?_
    clear hA gA
    have off0 := off
    simp only [LCg.Off3] at off
    (repeat' (walk_at "my step"))
    rw [take_snoc hc, List.map_append]
    exact IntsAre.append hys (.cons _ _ .nil)
  · intro ys nw hJ
    refine aside ?_
    intro gA hA
    obtain ⟨rfl, hys⟩ := hJ
    refine hA ?_
    clear hA gA
    rw [List.take_of_length_le (by simp)] at hys
    intro D h2 tk2 F3 N3 o3
    (repeat' ((fail_if_success (with_reducible show wpAny _ _ (call (Value.ref 76) _) _ _ _)); walk_at "my step"))
    k_dflt (refine' read_K (news := [(D, LCg.lst ys)]) ?kB ?kF ?kX ?kT ?kK ?kN ?kl ?ki ?kz ?k0 ?k1 ?kr hc0 hc1 ?kd ?ku ?_; (case kB => exact B'); (case kF => exact F3); (case kX => exact X'); (case kT => exact T'); (case kK => exact rfl); (case kN => exact N3); (case kl => is_list); (case ki => exact hys); (case kz => simp; omega); (case kr => exact hr); (case k0 => omega); (case k1 => omega); (case kd => ktr_room); (case ku => ktr_units))
    intro D7 x7 dx7 es7 t7 h7 tk7 hs7 F7 N7 ne71 ne72 ne73 l71 l72 G7
    (repeat' (walk_at "my step"))
    rename Fr g' L' _ _ => F10
    have kG9 : GSub s.heap _ [] := gsub_fr kG' F10
    exact ret _ _ (by k_asm) (gsub_news N0 kG9)
end
end Mine
end
section
set_option Elab.async false
set_option maxRecDepth 100000
set_option pp.maxSteps 250
set_option pp.deepTerms false
set_option linter.unusedVariables false
namespace Mine
open PySem PySem.W PySem.Spec PySem.Calls PyProof.Rows
theorem off_D6 : True := by
  w_top off
  trivial
local macro_rules | `(tactic| walk_at "none") => `(tactic| skip)
theorem fillNow_D6 : (fun (_ : OpenLaw) (_ : Params → Frag) => True) PySem.Challenge.rw_oj0017_01 hd.heap_39 := by
  k_fill; trivial
local macro_rules | `(tactic| k_room) => `(tactic| ktr_room)
section
variable {prog : Program} {w : World} {mg mb : Str → Option Value} {p : Program} {loose : List Str} {mean : ExcName → Option Value}
variable {dp un : Nat} {gd : Option (List Code)} {cn : Str} {cs : Scope} {a : Addr} {ccd : Value} {cl : List (Str × Addr)} {outer : List Env} {A₀ : Around} {base h₀ : Heap} {L : Addr} {m : Str → Option Value} {s : Shared} {Q E : Value → Shared → Prop}
variable (B : Below A₀ base outer h₀) (F : Fr h₀ L s.heap m) (X : (hd.heap_39 w.params).In h₀) (T : Top p loose mean mg mb h₀) (hk : cs.kind = .function)
include B F X T hk
set_option maxHeartbeats 8000000
omit B F X T hk in
theorem isList_ne {h : Heap} {l y : Addr} {o : Obj} {its : Array Value} (hl : h.IsList l its) (e : h.get? y = some o) (n : o.cls ≠ .type "list") : l ≠ y := fun q => by
  obtain ⟨o', e', c, _⟩ := hl
  rw [q, e] at e'; cases e'; exact n c
omit B F X T hk in
def padGo (bl : Bool) (wd : Int) (ns : List Int) : List Int := if bl then ns ++ List.replicate (wd - ns.length).toNat 32 else List.replicate (wd - ns.length).toNat 32 ++ ns

theorem pad_K {news : List (Addr × Obj)} {x dx lc : Addr} {es : List DictEntry} {vs : List Value} {ns : List Int} {f : Int} {bl bp bb bn bm : Bool} {wd pr : Int} {lt : Str}
    (N0 : News h₀ L s.heap news) (hx : (x, instObj 51 dx) ∈ news) (hdx : (dx, dictOf es 9) ∈ news) (hs : IsSpec w.params es f bl bp bb bn bm wd pr lt)
    (hl : s.heap.IsList lc vs.toArray) (hi : IntsAre vs ns) (hlen : ns.length ≤ 1000) (w0 : 0 ≤ wd) (w1 : wd ≤ 1000)
    (hd : dp + 5 < recursionLimit) (hu : un + 40 < cLine)
    (ret : ∀ r n vs' h' tk', IntsAre vs' (padGo bl wd ns) → Fr h₀ L h' m → News h₀ L h' ((r, listOf vs'.toArray n) :: news) → (∀ p ∈ news, p.1 ≠ r) → GSub s.heap h' [] → Q (.ref r) { s with heap := h', toks := tk' }) :
    wpAny (model prog w) (ktrTop dp un gd cn cs L a ccd cl outer) (call (.ref 83) [.ref x, .ref lc]) Q E s := by
  refine IsSpec.elim hs ?_
  intro k0'  k1'  k2'  k3'  k4'  k5'  k6'  k7'  k8'  t0'  t6'  t7'  t8'   qEs
  subst qEs
  have N : News h₀ L s.heap [(x, instObj 51 dx), (dx, dictOf (specEs w.params k0' k1' k2' k3' k4' k5' k6' k7' k8' t0' t6' t7' t8' f bl bp bb bn bm wd pr lt) 9)] :=
    news_sub N0 (by intro p hp; rcases List.mem_cons.mp hp with rfl | hp; exact hx; rcases List.mem_cons.mp hp with rfl | hp; exact hdx; cases hp)
  refine wpAny_call ?_
  k_dflt (walk_at "my enter")
  refine letAE ?_
  intro eK AK
  have hlx : lc ≠ x := isList_ne hl (N0 _ hx).1 (by intro q; cases q)
  have hld : lc ≠ dx := isList_ne hl (N0 _ hdx).1 (by intro q; simp at q)
  have hgl : g'.IsList lc vs.toArray := gsub_list kG' hl (by simp [hlx, hld])
  (repeat' (walk_at "my step"))
  all_goals (
    rename IntsAre _ _ => hI9
    have e9 : (List.replicate (if wd - ↑ns.length > 0 then wd - ↑ns.length else 0).toNat [(32 : Int)]).flatten = List.replicate (wd - ns.length).toNat 32 := by
      rw [show (if wd - ↑ns.length > 0 then wd - ↑ns.length else 0).toNat = (wd - ns.length).toNat by split <;> omega]
      generalize (wd - ns.length).toNat = q
      induction q with
      | zero => rfl
      | succ q ih => rw [List.replicate_succ, List.flatten_cons, ih]; rfl
    rw [e9] at hI9
    first
    | rw [← (show padGo bl wd ns = ns ++ List.replicate (wd - ns.length).toNat 32 from if_pos (by assumption))] at hI9
    | rw [← (show padGo bl wd ns = List.replicate (wd - ns.length).toNat 32 ++ ns from if_neg (by simp [*]))] at hI9
    rename News h₀ L _ _ => N9
    have kG9 : GSub s.heap _ [] := gsub_less (gsub_less (gsub_fr kG' (by assumption)) (N0 _ hx).1 (N9 (x, _) (by k_mem)).1) (N0 _ hdx).1 (N9 (dx, _) (by k_mem)).1
    refine ret _ 0 _ _ _ hI9 (by k_asm) (news_cons (news_sub N9 (by lcg_sub)) (gsub_news N0 kG9)) ?_ kG9
    exact new_ne kG' (by rename News g' L' _ _ => N10; exact N10) (by k_mem) N0 (by simp only [List.map_cons, List.map_nil, List.mem_cons, List.not_mem_nil, or_false, not_or]; exact ⟨by k_ne, by k_ne⟩))
end
end Mine
end
section
set_option Elab.async false
set_option maxRecDepth 100000
set_option pp.maxSteps 250
set_option pp.deepTerms false
set_option linter.unusedVariables false
namespace Mine
open PySem PySem.W PySem.Spec PySem.Calls PyProof.Rows
theorem off_D7 : True := by
  w_top off
  trivial
local macro_rules | `(tactic| walk_at "none") => `(tactic| skip)
local macro_rules | `(tactic| walk_at "none") => `(tactic| skip)
theorem fillNow_D7 : (fun (_ : OpenLaw) (_ : Params → Frag) => True) PySem.Challenge.rw_oj0017_01 hd.heap_39 := by
  k_fill; trivial
local macro_rules | `(tactic| k_room) => `(tactic| ktr_room)
theorem test_j {M : Model} {A : Around} {E : Value → Shared → Prop} {Q : Bool → Shared → Prop} {s : Shared} {env : Env} {e : Expr} {x : Sem Value} (P : (Bool → Shared → Prop) → Prop)
    (h1 : ∀ Qm, P Qm → wpAny M A (isTrue e env x) Qm E s) (h2 : P Q) : wpAny M A (isTrue e env x) Q E s := h1 Q h2
inductive JOut (l : Ltr) (lt : Str) (tl tr4 tc4 : Tok) (C : Nat) (lf : Addr) (nn n : Nat) (m₁ : Str → Option Value) (news₁ : List (Addr × Obj)) : Prop
  | mk (hi : Nat) (F : List Int) (vs : List Value) (c : Nat) (th : Tok) (h0 : news₁ = [(lf, listOf vs.toArray c)]) (hI : IntsAre vs F) (e1 : m₁ (Str.ofString "number") = some (.int hi th)) (e2 : m₁ (Str.ofString "letter") = some (.str lt tl)) (e3 : m₁ (Str.ofString "radix") = some (.int l.radix tr4))
    (e4 : m₁ (Str.ofString "chunk") = some (.int C tc4)) (e5 : m₁ (Str.ofString "found") = some (.ref lf)) (hfin : fin l hi F = figs l nn) (hn : n = hi + (if F = [] then 1 else 0)) : JOut l lt tl tr4 tc4 C lf nn n m₁ news₁
inductive JIn (l : Ltr) (lt : Str) (tl tr4 tc4 : Tok) (C : Nat) (lf : Addr) (nn hi i : Nat) (m : Str → Option Value) (nx : List (Addr × Obj)) : Prop
  | mk (p : Nat) (F : List Int) (vs : List Value) (c : Nat) (t1 t2 : Tok) (h0 : nx = [(lf, listOf vs.toArray c)]) (hI : IntsAre vs F) (e1 : m (Str.ofString "number") = some (.int (hi / C : Nat) t1)) (e2 : m (Str.ofString "letter") = some (.str lt tl)) (e3 : m (Str.ofString "radix") = some (.int l.radix tr4))
    (e4 : m (Str.ofString "chunk") = some (.int C tc4)) (e5 : m (Str.ofString "found") = some (.ref lf)) (e6 : m (Str.ofString "part") = some (.int p t2)) (hp : p < l.radix ^ (8 - i)) (hf : fin l (hi / C * l.radix ^ (8 - i) + p) F = figs l nn) (hi0 : 0 < i → F ≠ []) : JIn l lt tl tr4 tc4 C lf nn hi i m nx
section
variable {prog : Program} {w : World} {mg mb : Str → Option Value} {p : Program} {loose : List Str} {mean : ExcName → Option Value}
variable {dp un : Nat} {gd : Option (List Code)} {cn : Str} {cs : Scope} {a : Addr} {ccd : Value} {cl : List (Str × Addr)} {outer : List Env} {A₀ : Around} {base h₀ : Heap} {L : Addr} {m : Str → Option Value} {s : Shared} {Q E : Value → Shared → Prop}
variable (B : Below A₀ base outer h₀) (F : Fr h₀ L s.heap m) (X : (hd.heap_39 w.params).In h₀) (T : Top p loose mean mg mb h₀) (hk : cs.kind = .function)
include B F X T hk
set_option maxHeartbeats 8000000
local macro_rules | `(tactic| walk_at "KysD") => `(tactic| (dsimp only; with_reducible refine kysD_radixV (by assumption) ?_; intro tr'))
local macro_rules | `(tactic| units_room) => `(tactic| ktr_units)
local macro_rules | `(tactic| walk_at "call builtin:divmod") => `(tactic| (k_here; (with_reducible show wpAny _ _ (call (Value.builtin _) [Value.int _ _, Value.int _ _]) _ _ _); with_reducible refine' divmod_NK ?k1 ?k2 ?k3 ?k4 ?_; (case k1 => k_asm); (case k2 => k_asm); (case k3 => omega); (case k4 => first | assumption | omega); intro D' h' F' N' l1; (try k_lt l1)))
theorem figs_K {news : List (Addr × Obj)} {l : Ltr} {lt : Str} {nn : Nat} {tn tl : Tok} 
    (N0 : News h₀ L s.heap news) (hnn : nn < 10 ^ 31) (hlt : l.str = lt)
    (hd : dp + 5 < recursionLimit) (hu : un + 200 < cLine)
    (ret : ∀ r n vs' h' tk', IntsAre vs' (figs l nn).reverse → Fr h₀ L h' m → News h₀ L h' ((r, listOf vs'.toArray n) :: news) → (∀ p ∈ news, p.1 ≠ r) → GSub s.heap h' [] → Q (.ref r) { s with heap := h', toks := tk' }) :
    wpAny (model prog w) (ktrTop dp un gd cn cs L a ccd cl outer) (call (.ref 90) [.int nn tn, .str lt tl]) Q E s := by
  have N : News h₀ L s.heap [] := News.nil
  refine wpAny_call ?_
  k_dflt (walk_at "my enter")
  have hR1 : (8 : Int) ≤ l.radix := by have := l.radix2; omega
  have hR2 : (l.radix : Int) ≤ 16 := by have := l.radix2; omega
  (repeat' ((fail_if_success (with_reducible show wpAny _ _ (exec (Stmt.Assign [Expr.Name _ _] (Expr.Subscript _ _ _) _) _) _ _ _)); walk_at "my step"))
  with_reducible refine mid_j (fun Qm => ∀ h' tk' mq tr, Fr g' L' h' mq → mq (Str.ofString "number") = some (.int nn tn) → mq (Str.ofString "letter") = some (.str lt tl) → mq (Str.ofString "radix") = some (.int l.radix tr) → News g' L' h' [] → Qm .next { s with heap := h', toks := tk' }) ?_ ?_
  · intro Qm hQm
    (repeat' (walk_at "my step"))
    rename Fr g' L' _ _ => F8
    exact hQm _ _ _ _ F8 (by first | exact rfl | assumption) (by first | exact rfl | assumption) (by first | exact rfl | assumption) News.nil
  rintro h3 tk3 mq tr F3 e1 e2 e3 N3
  (try dsimp only)
  (repeat' ((fail_if_success (with_reducible show wpAny _ _ (exec (Stmt.Assign [Expr.Tuple _ _ _] _ _) _) _ _ _)); walk_at "my step"))
  with_reducible refine mid_j (fun Qm => ∀ h' tk' mq tr2 tc lf, Fr g' L' h' mq → mq (Str.ofString "number") = some (.int nn tn) → mq (Str.ofString "letter") = some (.str lt tl) → mq (Str.ofString "radix") = some (.int l.radix tr2) → mq (Str.ofString "chunk") = some (.int ((l.radix : Int) ^ 8) tc) → mq (Str.ofString "found") = some (.ref lf) → News g' L' h' [(lf, listOf #[] 0)] → Qm .next { s with heap := h', toks := tk' }) ?_ ?_
  · intro Qm hQm
    (repeat' (walk_at "my step"))
    rename Fr g' L' _ _ => F8
    rename News g' L' _ _ => N8
    exact hQm _ _ _ _ _ _ F8 (by first | exact rfl | assumption) (by first | exact rfl | assumption) (by first | exact rfl | assumption) (by first | exact rfl | assumption) (by first | exact rfl | assumption) (news_sub N8 (by lcg_sub))
  rintro h4 tk4 mq4 tr4 tc4 lf F4 e1 e2 e3 e4 e5 N4
  have hC : ((l.radix : Int) ^ 8) = ((l.radix ^ 8 : Nat) : Int) := by simp
  rw [hC] at e4
  have hC2 : 1 < l.radix ^ 8 := Nat.lt_of_lt_of_le (by decide : 1 < 8 ^ 8) (Nat.pow_le_pow_left l.radix2.1 8)
  have hC3 : l.radix ^ 8 ≤ 1099511627776 := Nat.le_trans (Nat.pow_le_pow_left l.radix2.2 8) (by decide)
  generalize hCC : l.radix ^ 8 = C at e4 hC2 hC3
  clear hC
  (try dsimp only)
  (repeat' (walk_at "my step"))
  rename Fr g' L' _ _ => F5
  rename News g' L' _ _ => N5
  refine While_inv2 (fun n m₁ news₁ => JOut l lt tl tr4 tc4 C lf nn n m₁ news₁) (n₀ := nn + 1) F5 N5 ⟨nn, [], [], _, _, rfl, .nil, (by first | exact rfl | assumption), (by first | exact rfl | assumption), (by first | exact rfl | assumption), (by first | exact rfl | assumption), (by first | exact rfl | assumption), by simp [fin], rfl⟩ ?_
  intro n m₁ news₁ h₁ tk₁ F6 N6 hJ
  refine aside ?_
  intro gA hA
  obtain ⟨hi, FF, vs, c, th, rfl, hI, e1, e2, e3, e4, e5, hfin, hn⟩ := hJ
  refine hA ?_
  clear hA gA
  clear F5 N5
  have hFl : FF.length ≤ 35 := fin_len hnn hfin
  with_reducible refine test_j (fun Qm => ∀ (b : Bool) (h' : Heap) (tk' : Nat), (b = true ↔ (0 < hi ∨ FF = [])) → Fr g' L' h' m₁ → News g' L' h' [(lf, listOf vs.toArray c)] → Qm b { s with heap := h', toks := tk' }) ?_ ?_
  · intro Qm hQm
    (repeat' (walk_at "my step"))
    all_goals (
      rename Fr g' L' _ _ => F7
      rename News g' L' _ _ => N7
      first
      | exact hQm true _ _ ⟨fun _ => .inl (by omega), fun _ => rfl⟩ F7 (news_sub N7 (by lcg_sub))
      | exact hQm true _ _ ⟨fun _ => .inr (of_decide_eq_true (by assumption)), fun _ => rfl⟩ F7 (news_sub N7 (by lcg_sub))
      | exact hQm false _ _ ⟨fun q => (nomatch q), fun q => by rcases q with q | q; omega; exact absurd q (of_decide_eq_false (by assumption))⟩ F7 (news_sub N7 (by lcg_sub))
      | exact hQm (decide _) _ _ ⟨fun q => .inr (of_decide_eq_true q), fun q => by rcases q with q | q; omega; exact decide_eq_true q⟩ F7 (news_sub N7 (by lcg_sub)))
  clear F6 N6
  intro b h6 tk6 hb F6 N6
  (try dsimp only)
  cases b
  · have hnb : ¬ (0 < hi ∨ FF = []) := fun q => nomatch (hb.mpr q)
    (repeat' (walk_at "my step"))
    rename IntsAre _ _ => hI9
    have eF : FF = figs l nn := by
      rw [← hfin]; unfold fin
      rw [if_neg hnb]
    rw [eF] at hI9
    rename News h₀ L _ _ => N9
    have kG9 : GSub s.heap _ [] := gsub_fr kG' (by assumption)
    refine ret _ 0 _ _ _ hI9 (by k_asm) (news_cons (news_sub N9 (by lcg_sub)) (gsub_news N0 kG9)) ?_ kG9
    exact new_ne kG' (by rename News g' L' _ _ => N10; exact N10) (by k_mem) N0 (by simp)
  · have hor : 0 < hi ∨ FF = [] := hb.mp rfl
    (repeat' (walk_at "my step"))
    rename Fr g' L' _ _ => F7
    rename News g' L' _ _ => N7
    rw [fdivN, fmodN] at F7
    with_unfolding_all refine' For_invVF F7 ?k1 ?k2 ?_
    (case k1 => exact rfl)
    (case k2 => exact rfl)
    k_whole
    (repeat' ((fail_if_success (with_reducible show wpAny _ _ (pyIter (Value.ref _)) _ _ _)); walk_at "my step"))
    rename IsRange _ _ _ _ _ _ _ _ => rgX
    rename Fr g' L' _ _ => F8
    rename News g' L' _ _ => N8
    with_unfolding_all refine kpr_invN (news := [(lf, listOf vs.toArray c)]) (fun i m nx => JIn l lt tl tr4 tc4 C lf nn hi i m nx) (by rfl) rgX (by decide) (rangeSize_nat _ _) F8 (news_sub N8 (by lcg_sub)) ?_ ?_ ?_
    · refine ⟨hi % C, FF, vs, c, _, _, rfl, hI, (by first | exact rfl | assumption), (by first | exact rfl | assumption), (by first | exact rfl | assumption), (by first | exact rfl | assumption), (by first | exact rfl | assumption), (by first | exact rfl | assumption), ?_, ?_, ?_⟩
      · show hi % C < l.radix ^ 8
        rw [hCC]; exact Nat.mod_lt _ (by omega)
      · show fin l (hi / C * l.radix ^ 8 + hi % C) FF = _
        rw [hCC, Nat.mul_comm, Nat.div_add_mod]; exact hfin
      · intro q; exact absurd q (Nat.lt_irrefl _)
    · intro i k t m₂ nx h₂ tk₂ own hk hoff hJ F9 N9
      refine aside ?_
      intro gA hA
      obtain ⟨p, FG, vg, cg, t1, t2, rfl, hIg, e1, e2, e3, e4, e5, e6, hp, hf, hi0⟩ := hJ
      refine hA ?_
      clear hA gA
      simp only [List.cons_append, List.nil_append] at N9
      simp only [List.map_cons, List.map_nil] at hoff
      have hlf : @LT.lt Nat _ lf h₂.objs.size := Heap.lt_size (N9 _ (List.Mem.head _)).1
      have hi8 : i < 8 := by
        have q := (List.getElem?_eq_some_iff.mp hk).1
        rw [rangeKs_length] at q; exact q
      have hFl : FG.length ≤ 35 := fin_len hnn hf
      have hvl : vg.length ≤ 35 := by rw [hIg.length]; exact hFl
      (repeat' ((fail_if_success (with_reducible show wpAny _ _ (exec (Stmt.If _ _ _ _) _) _ _ _)); walk_at "my step"))
      refine wpAny_If ?_
      refine test_j (fun Qm => ∀ (b : Bool) (h' : Heap) (tk' : Nat), (b = true ↔ (0 < p ∨ 0 < hi / C ∨ FG = [])) → Fr g' L' h' (fun y => if y = Str.ofString "turn" then some (.int k t) else m₂ y) → News g' L' h' ((lf, listOf vg.toArray cg) :: own) → Qm b { s with heap := h', toks := tk' }) ?_ ?_
      · intro Qm hQm
        (repeat' (walk_at "my step"))
        all_goals (
          rename Fr g' L' _ _ => F12
          rename News g' L' _ _ => N12
          first
          | exact hQm true _ _ ⟨fun _ => .inl (by omega), fun _ => rfl⟩ F12 (fun q hq => N12 q (by first | exact hq | exact .tail _ hq))
          | exact hQm true _ _ ⟨fun _ => .inr (.inl (by omega)), fun _ => rfl⟩ F12 (fun q hq => N12 q (by first | exact hq | exact .tail _ hq))
          | exact hQm true _ _ ⟨fun _ => .inr (.inr (of_decide_eq_true (by assumption))), fun _ => rfl⟩ F12 (fun q hq => N12 q (by first | exact hq | exact .tail _ hq))
          | exact hQm false _ _ ⟨fun q => (nomatch q), fun q => by rcases q with q | q | q; omega; omega; exact absurd q (of_decide_eq_false (by assumption))⟩ F12 (fun q hq => N12 q (by first | exact hq | exact .tail _ hq))
          | exact hQm (decide _) _ _ ⟨fun q => .inr (.inr (of_decide_eq_true q)), fun q => by rcases q with q | q | q; omega; omega; exact decide_eq_true q⟩ F12 (fun q hq => N12 q (by first | exact hq | exact .tail _ hq)))
      clear F9 N9
      intro b h9 tk9 hb2 F9 N9
      have hlf2 : @LT.lt Nat _ lf h9.objs.size := Heap.lt_size (N9 _ (List.Mem.head _)).1
      (try dsimp only)
      cases b
      · have hnb2 : ¬ (0 < p ∨ 0 < hi / C ∨ FG = []) := fun q => nomatch (hb2.mpr q)
        have hz := fin_skip8 hi8 (by omega) (by omega) hf
        (repeat' (walk_at "my step"))
        exact inv_end1 F9 N9 ⟨p, _, _, _, _, _, rfl, hIg, (by first | exact rfl | assumption), (by first | exact rfl | assumption), (by first | exact rfl | assumption), (by first | exact rfl | assumption), (by first | exact rfl | assumption), (by first | exact rfl | assumption), hz.1, hz.2, fun _ q => hnb2 (.inr (.inr q))⟩ rfl
      · have hor2 : 0 < p ∨ 0 < hi / C ∨ FG = [] := hb2.mp rfl
        have hz := fin_take8 hi8 hor2 hp hf
        (repeat' (walk_at "my step"))
        all_goals (
          rename Fr g' L' _ _ => F12
          rename News g' L' _ _ => N12
          subst hlt
          first
          | rw [sgn_lo (l := l) (by assumption)] at N12
          | rw [sgn_X (l := l) (by assumption) (by assumption)] at N12
          | rw [sgn_nX (l := l) (by assumption) (by assumption)] at N12
          rw [fdivN, fmodN] at F12
          rw [fmodN, List.push_toArray] at N12
          first | exact inv_end1 F12 N12 ⟨p / l.radix, _, _, _, _, _, rfl, hIg.append (.cons _ _ .nil), (by first | exact rfl | assumption), (by first | exact rfl | assumption), (by first | exact rfl | assumption), (by first | exact rfl | assumption), (by first | exact rfl | assumption), (by first | exact rfl | assumption), hz.1, hz.2, by simp⟩ rfl | exact inv_end2 F12 N12 ⟨p / l.radix, _, _, _, _, _, rfl, hIg.append (.cons _ _ .nil), (by first | exact rfl | assumption), (by first | exact rfl | assumption), (by first | exact rfl | assumption), (by first | exact rfl | assumption), (by first | exact rfl | assumption), (by first | exact rfl | assumption), hz.1, hz.2, by simp⟩ rfl | exact inv_end3 F12 N12 ⟨p / l.radix, _, _, _, _, _, rfl, hIg.append (.cons _ _ .nil), (by first | exact rfl | assumption), (by first | exact rfl | assumption), (by first | exact rfl | assumption), (by first | exact rfl | assumption), (by first | exact rfl | assumption), (by first | exact rfl | assumption), hz.1, hz.2, by simp⟩ rfl)
    · intro m₂ nx h₂ tk₂ hJ F9 N9
      rw [rangeKs_length] at hJ
      refine aside ?_
      intro gA hA
      obtain ⟨p, FG, vg, cg, t1, t2, rfl, hIg, e1, e2, e3, e4, e5, e6, hp, hf, hi0⟩ := hJ
      refine hA ?_
      clear hA gA
      have hp0 : p = 0 := by
        have q : p < l.radix ^ 0 := hp
        rw [Nat.pow_zero] at q; omega
      subst hp0
      have hf' : fin l (hi / C) FG = figs l nn := by
        have q : fin l (hi / C * l.radix ^ 0 + 0) FG = figs l nn := hf
        simpa using q
      have hne : FG ≠ [] := hi0 (by decide)
      (try dsimp only)
      (repeat' (walk_at "my step"))
      rename Fr g' L' _ _ => F12
      rename News g' L' _ _ => N12
      refine ⟨_, _, _, _, hi / C + 0, rfl, F12, N12, ?_, hi / C, FG, vg, cg, _, rfl, hIg, (by first | exact rfl | assumption), (by first | exact rfl | assumption), (by first | exact rfl | assumption), (by first | exact rfl | assumption), (by first | exact rfl | assumption), hf', by rw [if_neg hne]⟩
      rw [hn]
      rcases hor with q | q
      · have := Nat.div_lt_self q hC2; omega
      · rw [if_pos q]; have := Nat.div_le_self hi C; omega
end
end Mine
end
section
set_option Elab.async false
set_option maxRecDepth 100000
set_option pp.maxSteps 250
set_option pp.deepTerms false
set_option linter.unusedVariables false
namespace Mine
open PySem PySem.W PySem.Spec PySem.Calls PyProof.Rows
theorem off_D8 : True := by
  w_top off
  trivial
theorem fillNow_D8 : (fun (_ : OpenLaw) (_ : Params → Frag) => True) PySem.Challenge.rw_oj0017_01 hd.heap_39 := by
  k_fill; trivial
local macro_rules | `(tactic| k_room) => `(tactic| ktr_room)
section
variable {prog : Program} {w : World} {mg mb : Str → Option Value} {p : Program} {loose : List Str} {mean : ExcName → Option Value}
variable {dp un : Nat} {gd : Option (List Code)} {cn : Str} {cs : Scope} {a : Addr} {ccd : Value} {cl : List (Str × Addr)} {outer : List Env} {A₀ : Around} {base h₀ : Heap} {L : Addr} {m : Str → Option Value} {s : Shared} {Q E : Value → Shared → Prop}
variable (B : Below A₀ base outer h₀) (F : Fr h₀ L s.heap m) (X : (hd.heap_39 w.params).In h₀) (T : Top p loose mean mg mb h₀) (hk : cs.kind = .function)
include B F X T hk
set_option maxHeartbeats 8000000
local macro_rules | `(tactic| units_room) => `(tactic| ktr_units)
theorem figs_K2 {news : List (Addr × Obj)} {l : Ltr} {lt : Str} {nn : Nat} {ni : Int} {tn tl : Tok} 
    (N0 : News h₀ L s.heap news) (hnn : nn < 10 ^ 31) (hni : ni = (nn : Int)) (hlt : l.str = lt)
    (hd : dp + 5 < recursionLimit) (hu : un + 200 < cLine)
    (ret : ∀ r n vs' h' tk', IntsAre vs' (figs l nn).reverse → Fr h₀ L h' m → News h₀ L h' ((r, listOf vs'.toArray n) :: news) → (∀ p ∈ news, p.1 ≠ r) → GSub s.heap h' [] → Q (.ref r) { s with heap := h', toks := tk' }) :
    wpAny (model prog w) (ktrTop dp un gd cn cs L a ccd cl outer) (call (.ref 90) [.int ni tn, .str lt tl]) Q E s := by
  subst hni
  exact figs_K B F X T hk N0 hnn hlt hd hu ret
local macro_rules | `(tactic| walk_at "call builtin:ord") => `(tactic| (k_here; with_reducible refine ord_ltr (by assumption) ?_))
theorem codes_K {news : List (Addr × Obj)} {x dx : Addr} {es : List DictEntry} {f : Int} {bl bp bb bn bm : Bool} {wd pr : Int} {l : Ltr} {lt : Str} {n : Int} {tn : Tok}
    (N0 : News h₀ L s.heap news) (hx : (x, instObj 51 dx) ∈ news) (hdx : (dx, dictOf es 9) ∈ news) (hs : IsSpec w.params es f bl bp bb bn bm wd pr lt) (hlt : l.str = lt)
    (w0 : 0 ≤ wd) (w1 : wd ≤ 100) (p0 : -1 ≤ pr) (p1 : pr ≤ 100) (hnn : n.natAbs < 10 ^ 31)
    (hd : dp + 10 < recursionLimit) (hu : un + 300 < cLine)
    (ret : ∀ r n' vs' h' tk', IntsAre vs' (padGo bl wd (ncH2 l bm n (ncHead bp bb n) ++ ncF3 bl bn wd pr (ncH2 l bm n (ncHead bp bb n)) (ncF2 l bm (ncF1 l pr n)))) → Fr h₀ L h' m → News h₀ L h' ((r, listOf vs'.toArray n') :: news) → (∀ p ∈ news, p.1 ≠ r) → GSub s.heap h' [] → Q (.ref r) { s with heap := h', toks := tk' }) :
    wpAny (model prog w) (ktrTop dp un gd cn cs L a ccd cl outer) (call (.ref 97) [.ref x, .int n tn]) Q E s := by
  refine IsSpec.elim hs ?_
  intro k0'  k1'  k2'  k3'  k4'  k5'  k6'  k7'  k8'  t0'  t6'  t7'  t8'   qEs
  subst qEs
  have N : News h₀ L s.heap [(x, instObj 51 dx), (dx, dictOf (specEs w.params k0' k1' k2' k3' k4' k5' k6' k7' k8' t0' t6' t7' t8' f bl bp bb bn bm wd pr lt) 9)] :=
    news_sub N0 (by intro p hp; rcases List.mem_cons.mp hp with rfl | hp; exact hx; rcases List.mem_cons.mp hp with rfl | hp; exact hdx; cases hp)
  refine wpAny_call ?_
  k_dflt (walk_at "my enter")
  refine letAE ?_
  intro eK AK
  (repeat' ((fail_if_success (with_reducible show wpAny _ _ (call (Value.ref 90) _) _ _ _)); walk_at "my step"))
  k_dflt (refine' figs_K2 ?kB ?kF ?kX ?kT ?kK ?kN ?kh ?ke ?kl ?kd ?ku ?_; (case kB => k_asm); (case kF => k_asm); (case kX => k_asm); (case kT => k_asm); (case kK => exact rfl); (case kN => k_asm); (case kh => exact hnn); (case ke => exact absN n); (case kl => exact hlt); (case kd => ktr_room); (case ku => ktr_units))
  intro lf nf vf h1 tk1 hIf F1 N1 ne1 G1
  have hfl : (figs l n.natAbs).length ≤ 35 := figs_len hnn
  have hfl0 := figs_pos l n.natAbs
  have hvfl : vf.length ≤ 35 := by rw [hIf.length, List.length_reverse]; exact hfl
  replace ne1 := allNe_of ne1; simp only [AllNe, and_true] at ne1
  generalize hRR : (figs l n.natAbs).reverse = R0 at hIf
  have hR0 : R0.length = (figs l n.natAbs).length := by rw [← hRR, List.length_reverse]
  have hR1 : R0.length ≤ 35 := by omega
  (repeat' ((fail_if_success (with_reducible show wpAny _ _ (exec (Stmt.Assign [Expr.Name _ _] (Expr.IfExp _ _ _ _) _) _) _ _ _)); walk_at "my step"))
  with_reducible refine mid_j (fun Qm => ∀ h' tk' mq lh vh nh, Fr g' L' h' mq → mq (Str.ofString "spec") = some (.ref x) → mq (Str.ofString "number") = some (.int n tn) → mq (Str.ofString "figures") = some (.ref lf) → mq (Str.ofString "head") = some (.ref lh) → IntsAre vh (ncHead bp bb n) → IntsAre vf R0 → News g' L' h' [(lh, listOf vh.toArray nh), (lf, listOf vf.toArray nf), (x, instObj 51 dx), (dx, dictOf (specEs w.params k0' k1' k2' k3' k4' k5' k6' k7' k8' t0' t6' t7' t8' f bl bp bb bn bm wd pr lt) 9)] → Qm .next { s with heap := h', toks := tk' }) ?_ ?_
  · intro Qm hQm
    (repeat' (walk_at "my step"))
    all_goals (
      rename Fr g' L' _ _ => F8
      rename News g' L' _ _ => N8
      refine hQm _ _ _ _ _ _ F8 (by first | exact rfl | assumption) (by first | exact rfl | assumption) (by first | exact rfl | assumption) (by first | exact rfl | assumption) ?_ hIf (news_sub N8 (by lcg_sub))
      first
      | (rw [show ncHead bp bb n = [45] by simp [ncHead, *]]; exact .cons _ _ .nil)
      | (rw [show ncHead bp bb n = [43] by simp [ncHead, *]]; exact .cons _ _ .nil)
      | (rw [show ncHead bp bb n = [32] by simp [ncHead, *]]; exact .cons _ _ .nil)
      | (rw [show ncHead bp bb n = [] by simp [ncHead, *]]; exact .nil))
  rintro h2 tk2 mq2 lh vh nh F2 e1 e2 e3 e4 hIh - N2
  have hlh := ncHead_len bp bb n
  generalize hH : ncHead bp bb n = H0 at hIh hlh
  have hvhl : vh.length ≤ 1 := by rw [hIh.length]; exact hlh
  (try dsimp only)
  (repeat' ((fail_if_success (with_reducible show wpAny _ _ (exec (Stmt.Assign [Expr.Name _ _] (Expr.BinOp _ _ _ _) _) _) _ _ _)); walk_at "my step"))
  with_reducible refine mid_j (fun Qm => ∀ h' tk' mq lf2 vf2 nf2, Fr g' L' h' mq → mq (Str.ofString "spec") = some (.ref x) → mq (Str.ofString "number") = some (.int n tn) → mq (Str.ofString "figures") = some (.ref lf2) → mq (Str.ofString "head") = some (.ref lh) → IntsAre vh H0 → IntsAre vf2 (ncF1 l pr n) → News g' L' h' [(lh, listOf vh.toArray nh), (lf2, listOf vf2.toArray nf2), (x, instObj 51 dx), (dx, dictOf (specEs w.params k0' k1' k2' k3' k4' k5' k6' k7' k8' t0' t6' t7' t8' f bl bp bb bn bm wd pr lt) 9)] → Qm .next { s with heap := h', toks := tk' }) ?_ ?_
  · intro Qm hQm
    (repeat' (walk_at "my step"))
    rename IntsAre _ _ => hI9
    rw [maxN, flat48] at hI9
    rename Fr g' L' _ _ => F8
    rename News g' L' _ _ => N8
    rw [show List.replicate (pr - (R0.length : Int)).toNat 48 ++ R0 = ncF1 l pr n by unfold ncF1; rw [← hRR, List.length_reverse]] at hI9
    exact hQm _ _ _ _ _ _ F8 (by first | exact rfl | assumption) (by first | exact rfl | assumption) (by first | exact rfl | assumption) (by first | exact rfl | assumption) hIh hI9 (news_sub N8 (by lcg_sub))
  rintro h3 tk3 mq3 lf2 vf2 nf2 F3 e1 e2 e3 e4 - hIf2 N3
  refine aside ?_
  intro gA hA
  obtain ⟨hF1a, hF1b⟩ := ncF1_len (l := l) hnn p1
  refine hA ?_
  clear hA gA
  generalize hF1 : ncF1 l pr n = F1 at hIf2 hF1a hF1b
  have hvf2 : vf2.length ≤ 135 := by rw [hIf2.length]; exact hF1b
  have ho := eq_o (l := l)
  rw [hlt] at ho
  have hxX := in_xX (l := l)
  rw [hlt] at hxX
  (try dsimp only)
  (repeat' ((fail_if_success (with_reducible show wpAny _ _ (exec (Stmt.If _ _ _ _) _) _ _ _)); walk_at "my step"))
  with_reducible refine mid_j (fun Qm => ∀ h' tk' mq lf3 vf3 nf3, Fr g' L' h' mq → mq (Str.ofString "spec") = some (.ref x) → mq (Str.ofString "number") = some (.int n tn) → mq (Str.ofString "figures") = some (.ref lf3) → mq (Str.ofString "head") = some (.ref lh) → IntsAre vh H0 → IntsAre vf3 (ncF2 l bm F1) → News g' L' h' [(lh, listOf vh.toArray nh), (lf3, listOf vf3.toArray nf3), (x, instObj 51 dx), (dx, dictOf (specEs w.params k0' k1' k2' k3' k4' k5' k6' k7' k8' t0' t6' t7' t8' f bl bp bb bn bm wd pr lt) 9)] → Qm .next { s with heap := h', toks := tk' }) ?_ ?_
  · intro Qm hQm
    (repeat' (walk_at "my step"))
    all_goals (
      rename Fr g' L' _ _ => F8
      rename News g' L' _ _ => N8
      first
      | (have q : l = .o := of_decide_eq_true (ho.symm.trans (by assumption))
         rename IntsAre _ _ => hI9
         rw [show [48] ++ F1 = ncF2 l bm F1 from (if_pos ⟨by assumption, q, by assumption⟩).symm] at hI9
         exact hQm _ _ _ _ _ _ F8 (by first | exact rfl | assumption) (by first | exact rfl | assumption) (by first | exact rfl | assumption) (by first | exact rfl | assumption) hIh hI9 (news_sub N8 (by lcg_sub)))
      | (rw [← show ncF2 l bm F1 = F1 from if_neg (by
           rintro ⟨q1, q2, q3⟩
           first | exact q3 (by assumption) | exact of_decide_eq_false (ho.symm.trans (by assumption)) q2 | exact tf q1 (by assumption))] at hIf2
         exact hQm _ _ _ _ _ _ F8 (by first | exact rfl | assumption) (by first | exact rfl | assumption) (by first | exact rfl | assumption) (by first | exact rfl | assumption) hIh hIf2 (news_sub N8 (by lcg_sub))))
  rintro h4 tk4 mq4 lf3 vf3 nf3 F4 e1 e2 e3 e4 - hIf3 N4
  have hF2a := ncF2_len (l := l) (bm := bm) (F := F1)
  generalize hF2 : ncF2 l bm F1 = F2v at hIf3 hF2a
  have hvf3 : vf3.length ≤ 136 := by rw [hIf3.length]; omega
  (try dsimp only)
  (repeat' ((fail_if_success (with_reducible show wpAny _ _ (exec (Stmt.If _ _ _ _) _) _ _ _)); walk_at "my step"))
  with_reducible refine mid_j (fun Qm => ∀ h' tk' mq lh2 vh2 nh2, Fr g' L' h' mq → mq (Str.ofString "spec") = some (.ref x) → mq (Str.ofString "number") = some (.int n tn) → mq (Str.ofString "figures") = some (.ref lf3) → mq (Str.ofString "head") = some (.ref lh2) → IntsAre vh2 (ncH2 l bm n H0) → IntsAre vf3 F2v → News g' L' h' [(lh2, listOf vh2.toArray nh2), (lf3, listOf vf3.toArray nf3), (x, instObj 51 dx), (dx, dictOf (specEs w.params k0' k1' k2' k3' k4' k5' k6' k7' k8' t0' t6' t7' t8' f bl bp bb bn bm wd pr lt) 9)] → Qm .next { s with heap := h', toks := tk' }) ?_ ?_
  · intro Qm hQm
    (repeat' (walk_at "my step"))
    all_goals (
      rename Fr g' L' _ _ => F8
      rename News g' L' _ _ => N8
      first
      | (have q : l = .x ∨ l = .X := Decidable.not_not.mp (of_decide_eq_false (hxX.symm.trans (by assumption)))
         rename IntsAre _ _ => hI9
         rw [show H0 ++ [48, (l.code : Int)] = ncH2 l bm n H0 from (if_pos ⟨by assumption, q, by assumption⟩).symm] at hI9
         exact hQm _ _ _ _ _ _ F8 (by first | exact rfl | assumption) (by first | exact rfl | assumption) (by first | exact rfl | assumption) (by first | exact rfl | assumption) hI9 hIf3 (news_sub N8 (by lcg_sub)))
      | (rw [← show ncH2 l bm n H0 = H0 from if_neg (by
           rintro ⟨q1, q2, q3⟩
           first | exact q3 (by assumption) | exact of_decide_eq_true (hxX.symm.trans (by assumption)) q2 | exact tf q1 (by assumption))] at hIh
         exact hQm _ _ _ _ _ _ F8 (by first | exact rfl | assumption) (by first | exact rfl | assumption) (by first | exact rfl | assumption) (by first | exact rfl | assumption) hIh hIf3 (news_sub N8 (by lcg_sub))))
  rintro h5 tk5 mq5 lh2 vh2 nh2 F5 e1 e2 e3 e4 hIh2 - N5
  have hH2a := ncH2_len (l := l) (bm := bm) (n := n) (H := H0)
  generalize hH2 : ncH2 l bm n H0 = H2v at hIh2 hH2a
  have hvh2 : vh2.length ≤ 3 := by rw [hIh2.length]; omega
  have hH2b : H2v.length ≤ 3 := by omega
  have hF2b : F2v.length ≤ 136 := by omega
  clear hxX ho
  (try dsimp only)
  (repeat' ((fail_if_success (with_reducible show wpAny _ _ (exec (Stmt.If _ _ _ _) _) _ _ _)); walk_at "my step"))
  with_reducible refine mid_j (fun Qm => ∀ h' tk' mq lf4 vf4 nf4, Fr g' L' h' mq → mq (Str.ofString "spec") = some (.ref x) → mq (Str.ofString "number") = some (.int n tn) → mq (Str.ofString "figures") = some (.ref lf4) → mq (Str.ofString "head") = some (.ref lh2) → IntsAre vh2 H2v → IntsAre vf4 (ncF3 bl bn wd pr H2v F2v) → News g' L' h' [(lh2, listOf vh2.toArray nh2), (lf4, listOf vf4.toArray nf4), (x, instObj 51 dx), (dx, dictOf (specEs w.params k0' k1' k2' k3' k4' k5' k6' k7' k8' t0' t6' t7' t8' f bl bp bb bn bm wd pr lt) 9)] → Qm .next { s with heap := h', toks := tk' }) ?_ ?_
  · intro Qm hQm
    (repeat' (walk_at "my step"))
    all_goals (
      rename Fr g' L' _ _ => F8
      rename News g' L' _ _ => N8
      first
      | (rename IntsAre _ _ => hI9
         rw [maxN, flat48] at hI9
         rw [show List.replicate (wd - (H2v.length : Int) - (F2v.length : Int)).toNat 48 ++ F2v = ncF3 bl bn wd pr H2v F2v from (if_pos ⟨by assumption, by assumption, by assumption⟩).symm] at hI9
         exact hQm _ _ _ _ _ _ F8 (by first | exact rfl | assumption) (by first | exact rfl | assumption) (by first | exact rfl | assumption) (by first | exact rfl | assumption) hIh2 hI9 (news_sub N8 (by lcg_sub)))
      | (rw [← show ncF3 bl bn wd pr H2v F2v = F2v from if_neg (by
           rintro ⟨q1, q2, q3⟩
           first | exact absurd q3 (by assumption) | exact tf (by assumption) q2 | exact tf q1 (by assumption))] at hIf3
         exact hQm _ _ _ _ _ _ F8 (by first | exact rfl | assumption) (by first | exact rfl | assumption) (by first | exact rfl | assumption) (by first | exact rfl | assumption) hIh2 hIf3 (news_sub N8 (by lcg_sub))))
  rintro h6 tk6 mq6 lf4 vf4 nf4 F6 e1 e2 e3 e4 - hIf4 N6
  have hF3a := ncF3_len (bl := bl) (bn := bn) (pr := pr) (H := H2v) (F := F2v) w1
  generalize hF3 : ncF3 bl bn wd pr H2v F2v = F3v at hIf4 hF3a
  have hvf4 : vf4.length ≤ 236 := by rw [hIf4.length]; omega
  have hF3b : F3v.length ≤ 236 := by omega
  (try dsimp only)
  (repeat' (walk_at "my step"))
  rename IntsAre _ _ => hI9
  have hl9 : (H2v ++ F3v).length ≤ 1000 := by rw [List.length_append]; omega
  k_dflt (refine' pad_K ?kB ?kF ?kX ?kT ?kK ?kN ?kx ?kdx ?ks ?kl ?ki ?kz ?kw0 ?kw1 ?kd ?ku ?_; (case kB => k_asm); (case kF => k_asm); (case kX => k_asm); (case kT => k_asm); (case kK => exact rfl); (case kN => k_asm); (case kx => k_mem); (case kdx => k_mem); (case ks => exact IsSpec.of); (case kl => is_list); (case ki => exact hI9); (case kz => exact hl9); (case kw0 => exact w0); (case kw1 => omega); (case kd => ktr_room); (case ku => ktr_units))
  intro r nr vr h7 tk7 hIr F7 N7 ne7 G7
  replace ne7 := allNe_of ne7; simp only [AllNe, and_true] at ne7
  (repeat' (walk_at "my step"))
  rename News h₀ L _ _ => N9
  have kG9 : GSub s.heap _ [] := gsub_less (gsub_less (gsub_fr kG' (by assumption)) (N0 _ hx).1 (N9 (x, _) (by k_mem)).1) (N0 _ hdx).1 (N9 (dx, _) (by k_mem)).1
  rw [hH, hF1, hF2, hH2, hF3] at ret
  refine ret _ _ _ _ _ hIr (by k_asm) (news_cons (news_sub N9 (by lcg_sub)) (gsub_news N0 kG9)) ?_ kG9
  exact new_ne kG' (by rename News g' L' _ _ => N10; exact N10) (by k_mem) N0 (by simp only [List.map_cons, List.map_nil, List.mem_cons, List.not_mem_nil, or_false, not_or]; exact ⟨by k_ne, by k_ne⟩)
end
end Mine
end
section
set_option Elab.async false
set_option maxRecDepth 100000
set_option pp.maxSteps 250
set_option pp.deepTerms false
set_option linter.unusedVariables false
namespace Mine
open PySem PySem.W PySem.Spec PySem.Calls PyProof.Rows
theorem off_D9 : True := by
  w_top off
  trivial
local macro_rules | `(tactic| walk_at "none") => `(tactic| skip)
local macro_rules | `(tactic| walk_at "none") => `(tactic| skip)
theorem fillNow_D9 : (fun (_ : OpenLaw) (_ : Params → Frag) => True) PySem.Challenge.rw_oj0017_01 hd.heap_39 := by
  k_fill; trivial
local macro_rules | `(tactic| k_room) => `(tactic| ktr_room)
section
variable {prog : Program} {w : World} {mg mb : Str → Option Value} {p : Program} {loose : List Str} {mean : ExcName → Option Value}
variable {dp un : Nat} {gd : Option (List Code)} {cn : Str} {cs : Scope} {a : Addr} {ccd : Value} {cl : List (Str × Addr)} {outer : List Env} {A₀ : Around} {base h₀ : Heap} {L : Addr} {m : Str → Option Value} {s : Shared} {Q E : Value → Shared → Prop}
variable (B : Below A₀ base outer h₀) (F : Fr h₀ L s.heap m) (X : (hd.heap_39 w.params).In h₀) (T : Top p loose mean mg mb h₀) (hk : cs.kind = .function)
include B F X T hk
set_option maxHeartbeats 8000000
local macro_rules | `(tactic| units_room) => `(tactic| ktr_units)
local macro_rules | `(tactic| walk_at "KysD") => `(tactic| (dsimp only; with_reducible refine kysD_menuV (by assumption) ?_; intro tr'))
local macro_rules | `(tactic| walk_at "compareOp NotIn str str") => `(tactic| (k_here; with_reducible refine notIn_menu (by assumption) ?_))
local macro_rules | `(tactic| walk_at "call builtin:str.index") => `(tactic| (k_here; (try dsimp only [List.cons_append, List.nil_append]); with_reducible refine' index_menu ?kh ?kd ?_; (case kd => assumption); (case kh => k_dflt (exact rfl))))
local macro_rules | `(tactic| walk_at "call builtin:len") => `(tactic| (k_here; with_reducible refine len_menu ?_))
theorem worth_K {news : List (Addr × Obj)} {l : Ltr} {lt x : Str} {ds : List Nat} {tx tl : Tok} 
    (N0 : News h₀ L s.heap news) (hlt : l.str = lt) (hx : x = ⟨(ds.map (dch l)).toArray⟩) (hds : ∀ d ∈ ds, d < l.radix)
    (hd : dp + 5 < recursionLimit) (hu : un + 200 < cLine)
    (ret : ∀ t h' tk', Fr h₀ L h' m → News h₀ L h' news → GSub s.heap h' [] → Q (.int (worth l ds) t) { s with heap := h', toks := tk' }) :
    wpAny (model prog w) (ktrTop dp un gd cn cs L a ccd cl outer) (call (.ref 123) [.str x tx, .str lt tl]) Q E s := by
  have N : News h₀ L s.heap [] := News.nil
  refine wpAny_call ?_
  k_dflt (walk_at "my enter")
  have hR1 : (8 : Int) ≤ l.radix := by have := l.radix2; omega
  have hR2 : (l.radix : Int) ≤ 16 := by have := l.radix2; omega
  (repeat' ((fail_if_success (with_reducible show wpAny _ _ (exec (Stmt.Assign _ _ _) _) _ _ _)); walk_at "my step"))
  with_reducible refine mid_j (fun Qm => ∀ h' tk' mq tc td, Fr g' L' h' mq → mq (Str.ofString "figures_here") = some (.str x tx) → mq (Str.ofString "letter") = some (.str lt tl) → mq (Str.ofString "signs") = some (.str l.menu tc) → mq (Str.ofString "found") = some (.int 0 td) → Qm .next { s with heap := h', toks := tk' }) ?_ ?_
  · intro Qm hQm
    (repeat' (walk_at "my step"))
    rename Fr g' L' _ _ => F8
    exact hQm _ _ _ _ _ F8 (by first | exact rfl | assumption) (by first | exact rfl | assumption) (by first | exact rfl | assumption) (by first | exact rfl | assumption)
  rintro h3 tk3 mq tc td F3 e1 e2 e3 e4
  have N3 : News g' L' h3 [] := News.nil
  (try dsimp only)
  (repeat' (walk_at "my step"))
  rename Fr g' L' _ _ => F5
  with_unfolding_all refine' For_invVF F5 ?k1 ?k2 ?_
  (case k1 => exact rfl)
  (case k2 => exact rfl)
  k_whole
  (repeat' ((fail_if_success (with_reducible show wpAny _ _ (pyIter (Value.str _ _)) _ _ _)); walk_at "my step"))
  rename Fr g' L' _ _ => F8
  with_unfolding_all refine str_invN (news := []) (fun i m nx => ∃ (t1 t2 : Tok), nx = [] ∧ m (Str.ofString "letter") = some (.str lt tl) ∧ m (Str.ofString "signs") = some (.str l.menu t1) ∧ m (Str.ofString "found") = some (.int (worth l (ds.take i)) t2)) (by rfl) F8 News.nil ?_ ?_ ?_
  · exact ⟨_, _, rfl, (by first | exact rfl | assumption), (by first | exact rfl | assumption), (by first | exact rfl | assumption)⟩
  · intro i c t m₂ nx h₂ tk₂ own hc hoff hJ F9 N9
    refine aside ?_
    intro gA hA
    obtain ⟨t1, t2, rfl, e1, e2, e3⟩ := hJ
    refine hA ?_
    clear hA gA
    simp only [List.nil_append] at N9
    rw [hx] at hc
    have hc' : (ds.map (dch l))[i]? = some c := by simpa using hc
    rw [List.getElem?_map] at hc'
    cases hdi : ds[i]? with
    | none => rw [hdi] at hc'; cases hc'
    | some d =>
    rw [hdi] at hc'
    obtain rfl : dch l d = c := by simpa using hc'
    have hdr : d < l.radix := hds d (List.mem_of_getElem? hdi)
    have hw : worth l (ds.take (i + 1)) = worth l (ds.take i) * l.radix + d := by
      unfold worth; rw [List.take_add_one, hdi, List.foldl_append]; rfl
    generalize worth l (ds.take i) = f at e3 hw
    clear hc hc'
    (repeat' (walk_at "my step"))
    rename Fr g' L' _ _ => F12
    rename News g' L' _ _ => N12
    rw [show (f : Int) * (l.radix : Int) + (d : Int) = ((worth l (ds.take (i + 1)) : Nat) : Int) by rw [hw]; simp] at F12
    exact InvEndN.intro F12 N12 (nx := []) ⟨_, _, rfl, (by first | exact rfl | assumption), (by first | exact rfl | assumption), (by first | exact rfl | assumption)⟩ rfl (fun p hp => nomatch hp) (fun p hp => hp)
  · intro m₂ nx h₂ tk₂ hJ F9 N9
    refine aside ?_
    intro gA hA
    obtain ⟨t1, t2, rfl, e1, e2, e3⟩ := hJ
    refine hA ?_
    clear hA gA
    rw [show ds.take x.cps.size = ds by rw [hx]; simp] at e3
    (try dsimp only)
    (repeat' (walk_at "my step"))
    have kG9 : GSub s.heap _ [] := gsub_fr kG' (by assumption)
    exact ret _ _ _ (by k_asm) (gsub_news N0 kG9) kG9
end
end Mine
end
section
set_option Elab.async false
set_option maxRecDepth 100000
set_option pp.maxSteps 250
set_option pp.deepTerms false
set_option linter.unusedVariables false
namespace Mine
open PySem PySem.W PySem.Spec PySem.Calls PyProof.Rows
theorem off_D10 : True := by
  w_top off
  trivial
local macro_rules | `(tactic| walk_at "none") => `(tactic| skip)
local macro_rules | `(tactic| walk_at "none") => `(tactic| skip)
local macro_rules | `(tactic| walk_at "none") => `(tactic| skip)
local macro_rules | `(tactic| walk_at "none") => `(tactic| skip)
local macro_rules | `(tactic| walk_at "none") => `(tactic| skip)
local macro_rules | `(tactic| walk_at "none") => `(tactic| skip)
local macro_rules | `(tactic| walk_at "none") => `(tactic| skip)
theorem fillNow_D10 : (fun (_ : OpenLaw) (_ : Params → Frag) => True) PySem.Challenge.rw_oj0017_01 hd.heap_39 := by
  k_fill; trivial
local macro_rules | `(tactic| k_room) => `(tactic| ktr_room)
section
variable {prog : Program} {w : World} {mg mb : Str → Option Value} {p : Program} {loose : List Str} {mean : ExcName → Option Value}
variable {dp un : Nat} {gd : Option (List Code)} {cn : Str} {cs : Scope} {a : Addr} {ccd : Value} {cl : List (Str × Addr)} {outer : List Env} {A₀ : Around} {base h₀ : Heap} {L : Addr} {m : Str → Option Value} {s : Shared} {Q E : Value → Shared → Prop}
variable (B : Below A₀ base outer h₀) (F : Fr h₀ L s.heap m) (X : (hd.heap_39 w.params).In h₀) (T : Top p loose mean mg mb h₀) (hk : cs.kind = .function)
include B F X T hk
set_option maxHeartbeats 8000000
local macro_rules | `(tactic| units_room) => `(tactic| ktr_units)
local macro_rules | `(tactic| walk_at "call builtin:str.startswith") => `(tactic| (k_here; (try dsimp only [List.cons_append, List.nil_append]); with_reducible refine starts_true (by assumption) ?_))
local macro_rules | `(tactic| walk_at "call builtin:str.strip") => `(tactic| (k_here; (try dsimp only [List.cons_append, List.nil_append]); with_reducible refine KXw.stripChars (by assumption) (by assumption) ?_; intro _ _))
local macro_rules | `(tactic| walk_at "call builtin:str.lstrip") => `(tactic| (k_here; (try dsimp only [List.cons_append, List.nil_append]); with_reducible refine KXw.lstripChars (by first | assumption | exact rfl) (by assumption) ?_; intro _ _))
local macro_rules | `(tactic| walk_at "call builtin:str.rstrip") => `(tactic| (k_here; (try dsimp only [List.cons_append, List.nil_append]); with_reducible refine KXw.rstripChars (by assumption) (by assumption) ?_; intro _ _))
local macro_rules | `(tactic| walk_at "call builtin:len") => `(tactic| (k_here; (with_reducible show wpAny _ _ (call (Value.builtin "len") [Value.str _ _]) _ _ _); with_reducible refine len_line (by assumption) ?_))
local macro_rules | `(tactic| walk_at "subscriptTail Name Slice str ref") => `(tactic| (k_here; (with_reducible show wpAny _ _ (subscriptTail _ (Expr.Slice (some _) none none _) (Value.str _ _) (Value.ref _)) _ _ _); (with_reducible rename Fr _ _ _ _ => F'); (with_reducible rename News _ _ _ _ => N'); k_dflt (refine slice_sn_eq (s := ⟨_, _, _, _, _⟩) (by assumption) (by assumption) F' N' ?_); intro _ _ _ _ _))
local macro_rules | `(tactic| walk_at "binaryOp Add str str") => `(tactic| (k_here; with_reducible refine add_str ?_ (by assumption); intro _ _))
theorem right_K {news : List (Addr × Obj)} {lp : Addr} {npp : Nat} {l : Ltr} {lt flags X BR LS RS BR2 FG G PL sg mk : Str} {ds : List Nat} {f wd pr n La Tr a0 : Int} {tf tg tw tp tl tn tx : Tok}
    (N0 : News h₀ L s.heap news) (hp : (lp, listOf #[.int f tf, .str flags tg, .int wd tw, .int pr tp, .str lt tl] npp) ∈ news) (hlt : l.str = lt)
    (R : Right l lt flags X BR LS RS BR2 FG G PL sg mk ds wd pr n La Tr a0)
    (hd : dp + 10 < recursionLimit) (hu : un + 300 < cLine)
    (ret : ∀ h' tk', Fr h₀ L h' m → News h₀ L h' news → GSub s.heap h' [] → Q (.bool true) { s with heap := h', toks := tk' }) :
    wpAny (model prog w) (ktrTop dp un gd cn cs L a ccd cl outer) (call (.ref 130) [.ref lp, .int n tn, .str X tx]) Q E s := by
  obtain ⟨z1, z2, z3, z4, z5, e1, e2, e3, ea, et, eg, eb, eb', s1, l0, l1, c1, em, s2, c2, hG, hds, hw, ep, ez, k1, k2, k3⟩ := R
  have N : News h₀ L s.heap [(lp, listOf #[.int f tf, .str flags tg, .int wd tw, .int pr tp, .str lt tl] npp)] := news_sub N0 (by intro p hq; rw [List.mem_singleton.mp hq]; exact hp)
  have zl : LS.length ≤ sizeLine := by rw [← e2]; exact Nat.le_trans (len_lstripChars _ _) z1
  have zr : RS.length ≤ sizeLine := by rw [← e3]; exact Nat.le_trans (len_rstripChars _ _) z1
  have zs1 : sg.length ≤ 1 := by rw [eg]; exact sgOf_len _ _
  have zs : sg.length ≤ sizeLine := Nat.le_trans zs1 (by rw [sizeLine_eq]; omega)
  have zm2 : mk.length ≤ 2 := by rw [em]; exact mkOf_len hlt
  have zm : mk.length ≤ sizeLine := Nat.le_trans zm2 (by rw [sizeLine_eq]; omega)
  have hl1 : lt.length = 1 := by subst hlt; cases l <;> decide +kernel
  have hl2 : (Str.ofString "0").length + lt.length ≤ sizeLine := by rw [hl1]; decide +kernel
  refine wpAny_call ?_
  k_dflt (walk_at "my enter")
  refine letAE ?_
  intro eK AK
  (repeat' ((fail_if_success (with_reducible show wpAny _ _ (exec (Stmt.Assign [Expr.Name _ _] (Expr.IfExp _ _ _ _) _) _) _ _ _)); walk_at "my step"))
  rename Fr g' L' _ _ => F0
  rw [ea, et] at F0
  with_reducible refine mid_j (fun Qm => ∀ (h' : Heap) (tk' : Nat) (mq : Str → Option Value) (q0 q1 q2 q3 q4 q5 q6 q7 q8 q9 : Tok), Fr g' L' h' mq → mq (Str.ofString "number") = some (.int n q0) → mq (Str.ofString "text") = some (.str X q1) → mq (Str.ofString "flags") = some (.str flags q2) → mq (Str.ofString "width") = some (.int wd q3) → mq (Str.ofString "precision") = some (.int pr q4) → mq (Str.ofString "letter") = some (.str lt q5) → mq (Str.ofString "bare") = some (.str BR q6) → mq (Str.ofString "ahead") = some (.int a0 q7) → mq (Str.ofString "behind") = some (.int Tr q8) → mq (Str.ofString "sign") = some (.str sg q9) → News g' L' h' [(lp, listOf #[.int f tf, .str flags tg, .int wd tw, .int pr tp, .str lt tl] npp)] → Qm .next { s with heap := h', toks := tk' }) ?_ ?_
  · intro Qm hQm
    (repeat' (walk_at "my step"))
    all_goals (
      rename Fr g' L' _ _ => F8
      first
      | rw [(sg1 (by assumption)).trans eg.symm] at F8
      | rw [(sg2 (by assumption) (by assumption)).trans eg.symm] at F8
      | rw [(sg3 (by assumption) (by assumption) (by assumption)).trans eg.symm] at F8
      | rw [(sg4 (by assumption) (by assumption) (by assumption)).trans eg.symm] at F8
      (rename News g' L' _ _ => N8; exact hQm _ _ _ _ _ _ _ _ _ _ _ _ _ F8 (by first | exact rfl | assumption) (by first | exact rfl | assumption) (by first | exact rfl | assumption) (by first | exact rfl | assumption) (by first | exact rfl | assumption) (by first | exact rfl | assumption) (by first | exact rfl | assumption) (by first | exact rfl | assumption) (by first | exact rfl | assumption) (by first | exact rfl | assumption) (news_sub N8 (by lcg_sub)))
      )
  intro h1 tk1 mq1 q1_0 q1_1 q1_2 q1_3 q1_4 q1_5 q1_6 q1_7 q1_8 q1_9 F1 y1_0 y1_1 y1_2 y1_3 y1_4 y1_5 y1_6 y1_7 y1_8 y1_9 N1
  (try dsimp only)
  (repeat' ((fail_if_success (with_reducible show wpAny _ _ (exec (Stmt.If _ _ _ _) _) _ _ _)); walk_at "my step"))
  with_reducible refine mid_j (fun Qm => ∀ (h' : Heap) (tk' : Nat) (mq : Str → Option Value) (q0 q1 q2 q3 q4 q5 q6 q7 q8 q9 : Tok), Fr g' L' h' mq → mq (Str.ofString "number") = some (.int n q0) → mq (Str.ofString "text") = some (.str X q1) → mq (Str.ofString "flags") = some (.str flags q2) → mq (Str.ofString "width") = some (.int wd q3) → mq (Str.ofString "precision") = some (.int pr q4) → mq (Str.ofString "letter") = some (.str lt q5) → mq (Str.ofString "bare") = some (.str BR2 q6) → mq (Str.ofString "ahead") = some (.int La q7) → mq (Str.ofString "behind") = some (.int Tr q8) → mq (Str.ofString "sign") = some (.str sg q9) → News g' L' h' [(lp, listOf #[.int f tf, .str flags tg, .int wd tw, .int pr tp, .str lt tl] npp)] → Qm .next { s with heap := h', toks := tk' }) ?_ ?_
  · intro Qm hQm
    (repeat' (walk_at "my step"))
    · obtain ⟨b1, b2⟩ := eb (by assumption)
      rename Fr g' L' _ _ => F8
      rw [b1, b2] at F8
      (rename News g' L' _ _ => N8; exact hQm _ _ _ _ _ _ _ _ _ _ _ _ _ F8 (by first | exact rfl | assumption) (by first | exact rfl | assumption) (by first | exact rfl | assumption) (by first | exact rfl | assumption) (by first | exact rfl | assumption) (by first | exact rfl | assumption) (by first | exact rfl | assumption) (by first | exact rfl | assumption) (by first | exact rfl | assumption) (by first | exact rfl | assumption) (news_sub N8 (by lcg_sub)))
    · obtain ⟨b1, b2⟩ := eb' (by assumption)
      subst b1
      subst b2
      rename Fr g' L' _ _ => F8
      (rename News g' L' _ _ => N8; exact hQm _ _ _ _ _ _ _ _ _ _ _ _ _ F8 (by first | exact rfl | assumption) (by first | exact rfl | assumption) (by first | exact rfl | assumption) (by first | exact rfl | assumption) (by first | exact rfl | assumption) (by first | exact rfl | assumption) (by first | exact rfl | assumption) (by first | exact rfl | assumption) (by first | exact rfl | assumption) (by first | exact rfl | assumption) (news_sub N8 (by lcg_sub)))
  intro h2 tk2 mq2 q2_0 q2_1 q2_2 q2_3 q2_4 q2_5 q2_6 q2_7 q2_8 q2_9 F2 y2_0 y2_1 y2_2 y2_3 y2_4 y2_5 y2_6 y2_7 y2_8 y2_9 N2
  clear y1_0 y1_1 y1_2 y1_3 y1_4 y1_5 y1_6 y1_7 y1_8 y1_9
  (try dsimp only)
  have hnn : ¬ (0 < La ∧ 0 < Tr) := by omega
  (repeat' ((fail_if_success (with_reducible show wpAny _ _ (exec (Stmt.If _ _ _ _) _) _ _ _)); walk_at "my step"))
  with_reducible refine mid_j (fun Qm => ∀ (h' : Heap) (tk' : Nat) (mq : Str → Option Value) (q0 q1 q2 q3 q4 q5 q6 q7 q8 q9 : Tok), Fr g' L' h' mq → mq (Str.ofString "number") = some (.int n q0) → mq (Str.ofString "text") = some (.str X q1) → mq (Str.ofString "flags") = some (.str flags q2) → mq (Str.ofString "width") = some (.int wd q3) → mq (Str.ofString "precision") = some (.int pr q4) → mq (Str.ofString "letter") = some (.str lt q5) → mq (Str.ofString "bare") = some (.str BR2 q6) → mq (Str.ofString "ahead") = some (.int La q7) → mq (Str.ofString "behind") = some (.int Tr q8) → mq (Str.ofString "sign") = some (.str sg q9) → News g' L' h' [(lp, listOf #[.int f tf, .str flags tg, .int wd tw, .int pr tp, .str lt tl] npp)] → Qm .next { s with heap := h', toks := tk' }) ?_ ?_
  · intro Qm hQm
    (repeat' (walk_at "my step"))
    all_goals (
      rename Fr g' L' _ _ => F8
      (rename News g' L' _ _ => N8; exact hQm _ _ _ _ _ _ _ _ _ _ _ _ _ F8 (by first | exact rfl | assumption) (by first | exact rfl | assumption) (by first | exact rfl | assumption) (by first | exact rfl | assumption) (by first | exact rfl | assumption) (by first | exact rfl | assumption) (by first | exact rfl | assumption) (by first | exact rfl | assumption) (by first | exact rfl | assumption) (by first | exact rfl | assumption) (news_sub N8 (by lcg_sub)))
      )
  intro h3 tk3 mq3 q3_0 q3_1 q3_2 q3_3 q3_4 q3_5 q3_6 q3_7 q3_8 q3_9 F3 y3_0 y3_1 y3_2 y3_3 y3_4 y3_5 y3_6 y3_7 y3_8 y3_9 N3
  clear y2_0 y2_1 y2_2 y2_3 y2_4 y2_5 y2_6 y2_7 y2_8 y2_9
  (try dsimp only)
  (repeat' ((fail_if_success (with_reducible show wpAny _ _ (exec (Stmt.Assign [Expr.Name _ _] _ _) _) _ _ _)); walk_at "my step"))
  with_reducible refine mid_j (fun Qm => ∀ (h' : Heap) (tk' : Nat) (mq : Str → Option Value) (q0 q1 q2 q3 q4 q5 q6 q7 q8 q9 q10 : Tok), Fr g' L' h' mq → mq (Str.ofString "number") = some (.int n q0) → mq (Str.ofString "text") = some (.str X q1) → mq (Str.ofString "flags") = some (.str flags q2) → mq (Str.ofString "width") = some (.int wd q3) → mq (Str.ofString "precision") = some (.int pr q4) → mq (Str.ofString "letter") = some (.str lt q5) → mq (Str.ofString "bare") = some (.str BR2 q6) → mq (Str.ofString "ahead") = some (.int La q7) → mq (Str.ofString "behind") = some (.int Tr q8) → mq (Str.ofString "sign") = some (.str sg q9) → mq (Str.ofString "figures_here") = some (.str FG q10) → News g' L' h' [(lp, listOf #[.int f tf, .str flags tg, .int wd tw, .int pr tp, .str lt tl] npp)] → Qm .next { s with heap := h', toks := tk' }) ?_ ?_
  · intro Qm hQm
    (repeat' (walk_at "my step"))
    all_goals (
      rename Fr g' L' _ _ => F8
      (rename News g' L' _ _ => N8; exact hQm _ _ _ _ _ _ _ _ _ _ _ _ _ _ F8 (by first | exact rfl | assumption) (by first | exact rfl | assumption) (by first | exact rfl | assumption) (by first | exact rfl | assumption) (by first | exact rfl | assumption) (by first | exact rfl | assumption) (by first | exact rfl | assumption) (by first | exact rfl | assumption) (by first | exact rfl | assumption) (by first | exact rfl | assumption) (by first | exact rfl | assumption) (news_sub N8 (by lcg_sub)))
      )
  intro h4 tk4 mq4 q4_0 q4_1 q4_2 q4_3 q4_4 q4_5 q4_6 q4_7 q4_8 q4_9 q4_10 F4 y4_0 y4_1 y4_2 y4_3 y4_4 y4_5 y4_6 y4_7 y4_8 y4_9 y4_10 N4
  clear y3_0 y3_1 y3_2 y3_3 y3_4 y3_5 y3_6 y3_7 y3_8 y3_9
  (try dsimp only)
  have hxX := in_xX (l := l)
  rw [hlt] at hxX
  have ho := eq_o (l := l)
  rw [hlt] at ho
  (repeat' ((fail_if_success (with_reducible show wpAny _ _ (exec (Stmt.Assign [Expr.Name _ _] _ _) _) _ _ _)); walk_at "my step"))
  with_reducible refine mid_j (fun Qm => ∀ (h' : Heap) (tk' : Nat) (mq : Str → Option Value) (q0 q1 q2 q3 q4 q5 q6 q7 q8 q9 q10 : Tok), Fr g' L' h' mq → mq (Str.ofString "number") = some (.int n q0) → mq (Str.ofString "text") = some (.str X q1) → mq (Str.ofString "flags") = some (.str flags q2) → mq (Str.ofString "width") = some (.int wd q3) → mq (Str.ofString "precision") = some (.int pr q4) → mq (Str.ofString "letter") = some (.str lt q5) → mq (Str.ofString "ahead") = some (.int La q6) → mq (Str.ofString "behind") = some (.int Tr q7) → mq (Str.ofString "sign") = some (.str sg q8) → mq (Str.ofString "figures_here") = some (.str FG q9) → mq (Str.ofString "mark") = some (.str mk q10) → News g' L' h' [(lp, listOf #[.int f tf, .str flags tg, .int wd tw, .int pr tp, .str lt tl] npp)] → Qm .next { s with heap := h', toks := tk' }) ?_ ?_
  · intro Qm hQm
    (repeat' (walk_at "my step"))
    all_goals (
      rename Fr g' L' _ _ => F8
      first
      | (have q : l = .x ∨ l = .X := Decidable.not_not.mp (of_decide_eq_false (hxX.symm.trans (by assumption)))
         rw [show Str.ofString "0" ++ lt = mk from ((em.trans (if_pos ⟨has_t (by assumption), q, by assumption⟩))).symm] at F8)
      | (rw [show Str.ofString "" = mk from ((em.trans (if_neg (by
           rintro ⟨q1, q2, q3⟩
           first | exact q3 (by assumption) | exact of_decide_eq_true (hxX.symm.trans (by assumption)) q2 | exact Mine.tf q1 (has_f (by assumption))))).symm)] at F8)
      (rename News g' L' _ _ => N8; exact hQm _ _ _ _ _ _ _ _ _ _ _ _ _ _ F8 (by first | exact rfl | assumption) (by first | exact rfl | assumption) (by first | exact rfl | assumption) (by first | exact rfl | assumption) (by first | exact rfl | assumption) (by first | exact rfl | assumption) (by first | exact rfl | assumption) (by first | exact rfl | assumption) (by first | exact rfl | assumption) (by first | exact rfl | assumption) (by first | exact rfl | assumption) (news_sub N8 (by lcg_sub)))
      )
  intro h5 tk5 mq5 q5_0 q5_1 q5_2 q5_3 q5_4 q5_5 q5_6 q5_7 q5_8 q5_9 q5_10 F5 y5_0 y5_1 y5_2 y5_3 y5_4 y5_5 y5_6 y5_7 y5_8 y5_9 y5_10 N5
  clear y4_0 y4_1 y4_2 y4_3 y4_4 y4_5 y4_6 y4_7 y4_8 y4_9 y4_10
  (try dsimp only)
  (repeat' ((fail_if_success (with_reducible show wpAny _ _ (exec (Stmt.If _ _ _ _) _) _ _ _)); walk_at "my step"))
  with_reducible refine mid_j (fun Qm => ∀ (h' : Heap) (tk' : Nat) (mq : Str → Option Value) (q0 q1 q2 q3 q4 q5 q6 q7 q8 q9 q10 : Tok), Fr g' L' h' mq → mq (Str.ofString "number") = some (.int n q0) → mq (Str.ofString "text") = some (.str X q1) → mq (Str.ofString "flags") = some (.str flags q2) → mq (Str.ofString "width") = some (.int wd q3) → mq (Str.ofString "precision") = some (.int pr q4) → mq (Str.ofString "letter") = some (.str lt q5) → mq (Str.ofString "ahead") = some (.int La q6) → mq (Str.ofString "behind") = some (.int Tr q7) → mq (Str.ofString "sign") = some (.str sg q8) → mq (Str.ofString "figures_here") = some (.str FG q9) → mq (Str.ofString "mark") = some (.str mk q10) → News g' L' h' [(lp, listOf #[.int f tf, .str flags tg, .int wd tw, .int pr tp, .str lt tl] npp)] → Qm .next { s with heap := h', toks := tk' }) ?_ ?_
  · intro Qm hQm
    (repeat' (walk_at "my step"))
    k_dflt (refine' worth_K ?kB ?kF ?kX ?kT ?kK ?kN ?kl ?kx ?kd ?kr ?ku ?_; (case kB => k_asm); (case kF => k_asm); (case kX => k_asm); (case kT => k_asm); (case kK => exact rfl); (case kN => k_asm); (case kl => exact hlt); (case kx => exact hG); (case kd => exact hds); (case kr => ktr_room); (case ku => ktr_units))
    intro tw8 h8 tk8 F8 N8 G8
    rw [hw]
    (repeat' (walk_at "my step"))
    · exact absurd (absN n).symm (by assumption)
    · rename Fr g' L' _ _ => F8
      (rename News g' L' _ _ => N8; exact hQm _ _ _ _ _ _ _ _ _ _ _ _ _ _ F8 (by first | exact rfl | assumption) (by first | exact rfl | assumption) (by first | exact rfl | assumption) (by first | exact rfl | assumption) (by first | exact rfl | assumption) (by first | exact rfl | assumption) (by first | exact rfl | assumption) (by first | exact rfl | assumption) (by first | exact rfl | assumption) (by first | exact rfl | assumption) (by first | exact rfl | assumption) (news_sub N8 (by lcg_sub)))
  intro h6 tk6 mq6 q6_0 q6_1 q6_2 q6_3 q6_4 q6_5 q6_6 q6_7 q6_8 q6_9 q6_10 F6 y6_0 y6_1 y6_2 y6_3 y6_4 y6_5 y6_6 y6_7 y6_8 y6_9 y6_10 N6
  clear y5_0 y5_1 y5_2 y5_3 y5_4 y5_5 y5_6 y5_7 y5_8 y5_9 y5_10
  (try dsimp only)
  (repeat' ((fail_if_success (with_reducible show wpAny _ _ (exec (Stmt.Assign [Expr.Name _ _] _ _) _) _ _ _)); walk_at "my step"))
  with_reducible refine mid_j (fun Qm => ∀ (h' : Heap) (tk' : Nat) (mq : Str → Option Value) (q0 q1 q2 q3 q4 q5 q6 q7 q8 q9 q10 : Tok), Fr g' L' h' mq → mq (Str.ofString "number") = some (.int n q0) → mq (Str.ofString "text") = some (.str X q1) → mq (Str.ofString "flags") = some (.str flags q2) → mq (Str.ofString "width") = some (.int wd q3) → mq (Str.ofString "precision") = some (.int pr q4) → mq (Str.ofString "letter") = some (.str lt q5) → mq (Str.ofString "ahead") = some (.int La q6) → mq (Str.ofString "behind") = some (.int Tr q7) → mq (Str.ofString "sign") = some (.str sg q8) → mq (Str.ofString "mark") = some (.str mk q9) → mq (Str.ofString "figures_here") = some (.str G q10) → News g' L' h' [(lp, listOf #[.int f tf, .str flags tg, .int wd tw, .int pr tp, .str lt tl] npp)] → Qm .next { s with heap := h', toks := tk' }) ?_ ?_
  · intro Qm hQm
    (repeat' (walk_at "my step"))
    all_goals (
      rename Fr g' L' _ _ => F8
      (rename News g' L' _ _ => N8; exact hQm _ _ _ _ _ _ _ _ _ _ _ _ _ _ F8 (by first | exact rfl | assumption) (by first | exact rfl | assumption) (by first | exact rfl | assumption) (by first | exact rfl | assumption) (by first | exact rfl | assumption) (by first | exact rfl | assumption) (by first | exact rfl | assumption) (by first | exact rfl | assumption) (by first | exact rfl | assumption) (by first | exact rfl | assumption) (by first | exact rfl | assumption) (news_sub N8 (by lcg_sub)))
      )
  intro h7 tk7 mq7 q7_0 q7_1 q7_2 q7_3 q7_4 q7_5 q7_6 q7_7 q7_8 q7_9 q7_10 F7 y7_0 y7_1 y7_2 y7_3 y7_4 y7_5 y7_6 y7_7 y7_8 y7_9 y7_10 N7
  clear y6_0 y6_1 y6_2 y6_3 y6_4 y6_5 y6_6 y6_7 y6_8 y6_9 y6_10
  (try dsimp only)
  (repeat' ((fail_if_success (with_reducible show wpAny _ _ (exec (Stmt.Assign [Expr.Name _ _] _ _) _) _ _ _)); walk_at "my step"))
  with_reducible refine mid_j (fun Qm => ∀ (h' : Heap) (tk' : Nat) (mq : Str → Option Value) (q0 q1 q2 q3 q4 q5 q6 q7 q8 q9 q10 q11 : Tok), Fr g' L' h' mq → mq (Str.ofString "number") = some (.int n q0) → mq (Str.ofString "text") = some (.str X q1) → mq (Str.ofString "flags") = some (.str flags q2) → mq (Str.ofString "width") = some (.int wd q3) → mq (Str.ofString "precision") = some (.int pr q4) → mq (Str.ofString "letter") = some (.str lt q5) → mq (Str.ofString "ahead") = some (.int La q6) → mq (Str.ofString "behind") = some (.int Tr q7) → mq (Str.ofString "sign") = some (.str sg q8) → mq (Str.ofString "mark") = some (.str mk q9) → mq (Str.ofString "figures_here") = some (.str G q10) → mq (Str.ofString "plain_here") = some (.str PL q11) → News g' L' h' [(lp, listOf #[.int f tf, .str flags tg, .int wd tw, .int pr tp, .str lt tl] npp)] → Qm .next { s with heap := h', toks := tk' }) ?_ ?_
  · intro Qm hQm
    (repeat' (walk_at "my step"))
    all_goals (
      rename Fr g' L' _ _ => F8
      first
      | rw [show Txt.lstripChars G (Str.ofString "0") = PL from (ep.trans (if_pos (by assumption))).symm] at F8
      | rw [show Str.ofString "0" = PL from (ep.trans (if_neg (by intro q; exact q (by assumption)))).symm] at F8
      (rename News g' L' _ _ => N8; exact hQm _ _ _ _ _ _ _ _ _ _ _ _ _ _ _ F8 (by first | exact rfl | assumption) (by first | exact rfl | assumption) (by first | exact rfl | assumption) (by first | exact rfl | assumption) (by first | exact rfl | assumption) (by first | exact rfl | assumption) (by first | exact rfl | assumption) (by first | exact rfl | assumption) (by first | exact rfl | assumption) (by first | exact rfl | assumption) (by first | exact rfl | assumption) (by first | exact rfl | assumption) (news_sub N8 (by lcg_sub)))
      )
  intro h8 tk8 mq8 q8_0 q8_1 q8_2 q8_3 q8_4 q8_5 q8_6 q8_7 q8_8 q8_9 q8_10 q8_11 F8 y8_0 y8_1 y8_2 y8_3 y8_4 y8_5 y8_6 y8_7 y8_8 y8_9 y8_10 y8_11 N8
  clear y7_0 y7_1 y7_2 y7_3 y7_4 y7_5 y7_6 y7_7 y7_8 y7_9 y7_10
  (try dsimp only)
  (repeat' ((fail_if_success (with_reducible show wpAny _ _ (exec (Stmt.If _ _ _ _) _) _ _ _)); walk_at "my step"))
  with_reducible refine mid_j (fun Qm => ∀ (h' : Heap) (tk' : Nat) (mq : Str → Option Value) (q0 q1 q2 q3 q4 q5 q6 q7 q8 q9 q10 q11 : Tok), Fr g' L' h' mq → mq (Str.ofString "number") = some (.int n q0) → mq (Str.ofString "text") = some (.str X q1) → mq (Str.ofString "flags") = some (.str flags q2) → mq (Str.ofString "width") = some (.int wd q3) → mq (Str.ofString "precision") = some (.int pr q4) → mq (Str.ofString "letter") = some (.str lt q5) → mq (Str.ofString "ahead") = some (.int La q6) → mq (Str.ofString "behind") = some (.int Tr q7) → mq (Str.ofString "sign") = some (.str sg q8) → mq (Str.ofString "mark") = some (.str mk q9) → mq (Str.ofString "figures_here") = some (.str G q10) → mq (Str.ofString "plain_here") = some (.str PL q11) → News g' L' h' [(lp, listOf #[.int f tf, .str flags tg, .int wd tw, .int pr tp, .str lt tl] npp)] → Qm .next { s with heap := h', toks := tk' }) ?_ ?_
  · intro Qm hQm
    (repeat' (walk_at "my step"))
    all_goals (first
      | (exfalso
         have q := ez (has_t (by assumption)) (of_decide_eq_true (ho.symm.trans (by assumption)))
         have q2 : (Txt.slice G none (some 1) != Str.ofString "0") = true := by assumption
         rw [q] at q2
         exact absurd q2 (by decide +kernel))
      | (rename Fr g' L' _ _ => F8
         (rename News g' L' _ _ => N8; exact hQm _ _ _ _ _ _ _ _ _ _ _ _ _ _ _ F8 (by first | exact rfl | assumption) (by first | exact rfl | assumption) (by first | exact rfl | assumption) (by first | exact rfl | assumption) (by first | exact rfl | assumption) (by first | exact rfl | assumption) (by first | exact rfl | assumption) (by first | exact rfl | assumption) (by first | exact rfl | assumption) (by first | exact rfl | assumption) (by first | exact rfl | assumption) (by first | exact rfl | assumption) (news_sub N8 (by lcg_sub)))
))
  intro h9 tk9 mq9 q9_0 q9_1 q9_2 q9_3 q9_4 q9_5 q9_6 q9_7 q9_8 q9_9 q9_10 q9_11 F9 y9_0 y9_1 y9_2 y9_3 y9_4 y9_5 y9_6 y9_7 y9_8 y9_9 y9_10 y9_11 N9
  clear y8_0 y8_1 y8_2 y8_3 y8_4 y8_5 y8_6 y8_7 y8_8 y8_9 y8_10 y8_11
  (try dsimp only)
  (repeat' ((fail_if_success (with_reducible show wpAny _ _ (exec (Stmt.Assign [Expr.Name _ _] _ _) _) _ _ _)); walk_at "my step"))
  with_reducible refine mid_j (fun Qm => ∀ (h' : Heap) (tk' : Nat) (mq : Str → Option Value) (q0 q1 q2 q3 q4 q5 q6 q7 q8 q9 q10 q11 : Tok), Fr g' L' h' mq → mq (Str.ofString "number") = some (.int n q0) → mq (Str.ofString "text") = some (.str X q1) → mq (Str.ofString "flags") = some (.str flags q2) → mq (Str.ofString "width") = some (.int wd q3) → mq (Str.ofString "precision") = some (.int pr q4) → mq (Str.ofString "letter") = some (.str lt q5) → mq (Str.ofString "ahead") = some (.int La q6) → mq (Str.ofString "behind") = some (.int Tr q7) → mq (Str.ofString "sign") = some (.str sg q8) → mq (Str.ofString "mark") = some (.str mk q9) → mq (Str.ofString "figures_here") = some (.str G q10) → mq (Str.ofString "plain_here") = some (.str PL q11) → mq (Str.ofString "fills") = some (.bool (fillsOf flags pr)) → News g' L' h' [(lp, listOf #[.int f tf, .str flags tg, .int wd tw, .int pr tp, .str lt tl] npp)] → Qm .next { s with heap := h', toks := tk' }) ?_ ?_
  · intro Qm hQm
    (repeat' (walk_at "my step"))
    all_goals (
      rename Fr g' L' _ _ => F8
      first
      | rw [fills1 (pr := pr) (by assumption)] at F8
      | rw [fills2 (by assumption) (by assumption)] at F8
      | rw [fills3 (pr := pr) (by assumption) (by assumption)] at F8
      (rename News g' L' _ _ => N8; exact hQm _ _ _ _ _ _ _ _ _ _ _ _ _ _ _ F8 (by first | exact rfl | assumption) (by first | exact rfl | assumption) (by first | exact rfl | assumption) (by first | exact rfl | assumption) (by first | exact rfl | assumption) (by first | exact rfl | assumption) (by first | exact rfl | assumption) (by first | exact rfl | assumption) (by first | exact rfl | assumption) (by first | exact rfl | assumption) (by first | exact rfl | assumption) (by first | exact rfl | assumption) (by first | exact rfl | assumption) (news_sub N8 (by lcg_sub)))
      )
  intro h10 tk10 mq10 q10_0 q10_1 q10_2 q10_3 q10_4 q10_5 q10_6 q10_7 q10_8 q10_9 q10_10 q10_11 F10 y10_0 y10_1 y10_2 y10_3 y10_4 y10_5 y10_6 y10_7 y10_8 y10_9 y10_10 y10_11 y10_12 N10
  clear y9_0 y9_1 y9_2 y9_3 y9_4 y9_5 y9_6 y9_7 y9_8 y9_9 y9_10 y9_11
  (try dsimp only)
  have zp : PL.length ≤ sizeLine := by rw [ep]; split; exact Nat.le_trans (len_lstripChars _ _) z5; decide +kernel
  (repeat' ((fail_if_success (with_reducible show wpAny _ _ (exec (Stmt.Assign [Expr.Name _ _] _ _) _) _ _ _)); walk_at "my step"))
  with_reducible refine mid_j (fun Qm => ∀ (h' : Heap) (tk' : Nat) (mq : Str → Option Value) (q0 q1 q2 q3 q4 q5 q6 q7 q8 q9 q10 q11 q13 : Tok), Fr g' L' h' mq → mq (Str.ofString "number") = some (.int n q0) → mq (Str.ofString "text") = some (.str X q1) → mq (Str.ofString "flags") = some (.str flags q2) → mq (Str.ofString "width") = some (.int wd q3) → mq (Str.ofString "precision") = some (.int pr q4) → mq (Str.ofString "letter") = some (.str lt q5) → mq (Str.ofString "ahead") = some (.int La q6) → mq (Str.ofString "behind") = some (.int Tr q7) → mq (Str.ofString "sign") = some (.str sg q8) → mq (Str.ofString "mark") = some (.str mk q9) → mq (Str.ofString "figures_here") = some (.str G q10) → mq (Str.ofString "plain_here") = some (.str PL q11) → mq (Str.ofString "fills") = some (.bool (fillsOf flags pr)) → mq (Str.ofString "need_here") = some (.int (needA flags l n pr PL.length) q13) → News g' L' h' [(lp, listOf #[.int f tf, .str flags tg, .int wd tw, .int pr tp, .str lt tl] npp)] → Qm .next { s with heap := h', toks := tk' }) ?_ ?_
  · intro Qm hQm
    (repeat' (walk_at "my step"))
    all_goals (
      rename Fr g' L' _ _ => F8
      first
      | rw [need1 (l := l) (n := n) (by assumption)] at F8
      | rw [need2 (l := l) (by assumption) (of_decide_eq_true (ho.symm.trans (by assumption)))] at F8
      | rw [need3 (l := l) (n := n) (by assumption) (of_decide_eq_false (ho.symm.trans (by assumption))) (by assumption)] at F8
      (rename News g' L' _ _ => N8; exact hQm _ _ _ _ _ _ _ _ _ _ _ _ _ _ _ _ F8 (by first | exact rfl | assumption) (by first | exact rfl | assumption) (by first | exact rfl | assumption) (by first | exact rfl | assumption) (by first | exact rfl | assumption) (by first | exact rfl | assumption) (by first | exact rfl | assumption) (by first | exact rfl | assumption) (by first | exact rfl | assumption) (by first | exact rfl | assumption) (by first | exact rfl | assumption) (by first | exact rfl | assumption) (by first | exact rfl | assumption) (by first | exact rfl | assumption) (news_sub N8 (by lcg_sub)))
      )
  intro h11 tk11 mq11 q11_0 q11_1 q11_2 q11_3 q11_4 q11_5 q11_6 q11_7 q11_8 q11_9 q11_10 q11_11 q11_13 F11 y11_0 y11_1 y11_2 y11_3 y11_4 y11_5 y11_6 y11_7 y11_8 y11_9 y11_10 y11_11 y11_12 y11_13 N11
  clear y10_0 y10_1 y10_2 y10_3 y10_4 y10_5 y10_6 y10_7 y10_8 y10_9 y10_10 y10_11 y10_12
  (try dsimp only)
  (repeat' ((fail_if_success (with_reducible show wpAny _ _ (exec (Stmt.If _ _ _ _) _) _ _ _)); walk_at "my step"))
  with_reducible refine mid_j (fun Qm => ∀ (h' : Heap) (tk' : Nat) (mq : Str → Option Value) (q0 q1 q2 q3 q4 q5 q6 q7 q8 q9 q10 q11 q12 : Tok), Fr g' L' h' mq → mq (Str.ofString "number") = some (.int n q0) → mq (Str.ofString "text") = some (.str X q1) → mq (Str.ofString "flags") = some (.str flags q2) → mq (Str.ofString "width") = some (.int wd q3) → mq (Str.ofString "precision") = some (.int pr q4) → mq (Str.ofString "letter") = some (.str lt q5) → mq (Str.ofString "ahead") = some (.int La q6) → mq (Str.ofString "behind") = some (.int Tr q7) → mq (Str.ofString "sign") = some (.str sg q8) → mq (Str.ofString "mark") = some (.str mk q9) → mq (Str.ofString "figures_here") = some (.str G q10) → mq (Str.ofString "plain_here") = some (.str PL q11) → mq (Str.ofString "need_here") = some (.int (needB flags l n pr wd PL.length sg.length mk.length) q12) → News g' L' h' [(lp, listOf #[.int f tf, .str flags tg, .int wd tw, .int pr tp, .str lt tl] npp)] → Qm .next { s with heap := h', toks := tk' }) ?_ ?_
  · intro Qm hQm
    (repeat' (walk_at "my step"))
    all_goals (
      rename Fr g' L' _ _ => F8
      first
      | rw [needB1 (by assumption)] at F8
      | rw [needB2 (wd := wd) (ns := sg.length) (nm := mk.length) (by assumption)] at y11_13
      (rename News g' L' _ _ => N8; exact hQm _ _ _ _ _ _ _ _ _ _ _ _ _ _ _ _ F8 (by first | exact rfl | assumption) (by first | exact rfl | assumption) (by first | exact rfl | assumption) (by first | exact rfl | assumption) (by first | exact rfl | assumption) (by first | exact rfl | assumption) (by first | exact rfl | assumption) (by first | exact rfl | assumption) (by first | exact rfl | assumption) (by first | exact rfl | assumption) (by first | exact rfl | assumption) (by first | exact rfl | assumption) (by first | exact rfl | assumption) (news_sub N8 (by lcg_sub)))
      )
  intro h12 tk12 mq12 q12_0 q12_1 q12_2 q12_3 q12_4 q12_5 q12_6 q12_7 q12_8 q12_9 q12_10 q12_11 q12_12 F12 y12_0 y12_1 y12_2 y12_3 y12_4 y12_5 y12_6 y12_7 y12_8 y12_9 y12_10 y12_11 y12_12 N12
  clear y11_0 y11_1 y11_2 y11_3 y11_4 y11_5 y11_6 y11_7 y11_8 y11_9 y11_10 y11_11 y11_12 y11_13
  (try dsimp only)
  rw [← mx] at k1 k2
  (repeat' (walk_at "my step"))
  all_goals (
    rename News h₀ L _ _ => N9
    have kG9 : GSub s.heap _ [] := gsub_less (gsub_fr kG' (by assumption)) (N0 _ hp).1 (N9 (lp, _) (by k_mem)).1
    first
    | contradiction
    | (rw [if_neg (by rw [has_f (by assumption)]; decide)] at k3
       subst k3
       exact ret _ _ (by k_asm) (gsub_news N0 kG9) kG9)
    | (rw [if_pos (has_t (by assumption))] at k3
       subst k3
       exact ret _ _ (by k_asm) (gsub_news N0 kG9) kG9))
theorem right_KE {news : List (Addr × Obj)} {lp : Addr} {npp : Nat} {l : Ltr} {lt flags X' : Str} {f wd pr n : Int} {tf tg tw tp tl tn tx : Tok}
    (N0 : News h₀ L s.heap news) (hp : (lp, listOf #[.int f tf, .str flags tg, .int wd tw, .int pr tp, .str lt tl] npp) ∈ news) (hlt : l.str = lt) (R : RightEx l lt flags X' wd pr n)
    (hd : dp + 10 < recursionLimit) (hu : un + 300 < cLine)
    (ret : ∀ h' tk', Fr h₀ L h' m → News h₀ L h' news → GSub s.heap h' [] → Q (.bool true) { s with heap := h', toks := tk' }) :
    wpAny (model prog w) (ktrTop dp un gd cn cs L a ccd cl outer) (call (.ref 130) [.ref lp, .int n tn, .str X' tx]) Q E s := by
  refine aside ?_
  intro gA hA
  obtain ⟨BR, LS, RS, BR2, FG, G, PL, sg, mk, ds, La, Tr, a0, R⟩ := R
  exact hA (right_K B F X T hk N0 hp hlt R hd hu ret)
end
end Mine
end
section
set_option Elab.async false
set_option maxRecDepth 100000
set_option pp.maxSteps 250
set_option pp.deepTerms false
set_option linter.unusedVariables false
namespace Mine
open PySem PySem.W PySem.Spec PySem.Calls PyProof.Rows
theorem off_D11 : True := by
  w_top off
  trivial
theorem fillNow_D11 : (fun (_ : OpenLaw) (_ : Params → Frag) => True) PySem.Challenge.rw_oj0017_01 hd.heap_39 := by
  k_fill; trivial
local macro_rules | `(tactic| k_room) => `(tactic| ktr_room)
section
variable {prog : Program} {w : World} {mg mb : Str → Option Value} {p : Program} {loose : List Str} {mean : ExcName → Option Value}
variable {dp un : Nat} {gd : Option (List Code)} {cn : Str} {cs : Scope} {a : Addr} {ccd : Value} {cl : List (Str × Addr)} {outer : List Env} {A₀ : Around} {base h₀ : Heap} {L : Addr} {m : Str → Option Value} {s : Shared} {Q E : Value → Shared → Prop}
variable (B : Below A₀ base outer h₀) (F : Fr h₀ L s.heap m) (X : (hd.heap_39 w.params).In h₀) (T : Top p loose mean mg mb h₀) (hk : cs.kind = .function)
include B F X T hk
set_option maxHeartbeats 8000000
local macro_rules | `(tactic| units_room) => `(tactic| ktr_units)
local macro_rules | `(tactic| walk_at "CompSrc") => `(tactic| (k_here; k_dflt (refine LCg.CompSrc.range (by rfl) (by k_asm) (by k_asm) (by assumption) (small_one (by omega) (by omega) (by omega) (by omega)) (rangeSize_nat _ _) (by rw [sizeLine_eq]; omega) ?_); intro g'; refine Hold.mk ?_))
local macro_rules | `(tactic| walk_at "call builtin:str.join") => `(tactic| (k_here; (with_reducible show wpAny _ _ (call (Value.builtin _) [Value.str _ _, Value.ref _]) _ _ _); k_dflt (refine' join_ones' ?l ?i ?c ?_; (case l => is_list); (case i => assumption); (case c => omega); intro _ _)))
local macro_rules | `(tactic| walk_at "call type:str") => `(tactic| (k_here; with_reducible refine str_small (by omega) (by omega) ?_))
local macro_rules | `(tactic| walk_at "binaryOp Add str str") => `(tactic| (k_here; with_reducible refine' add_str ?_ ?z; (case z => (simp only [Str.length_append, len_mk, List.length_append, len0, lenDl, lenDt, lenL]; rw [sizeLine_eq]; omega)); intro _ _))
local macro_rules | `(tactic| k_ne) => `(tactic| (refine neN ?_; with_reducible assumption))
theorem lawspec_K {d lx : Addr} {rest : List (Addr × Obj)} {vs : List Value} {ns : List Int} {k : Int} {t0 : Tok} {nd nx : Nat}
    (N0 : News h₀ L s.heap ((d, listOf [.ref lx, .int k t0].toArray nd) :: (lx, listOf vs.toArray nx) :: rest)) (hld : @Ne Nat lx d) (ho : OwnOff rest [d])
    (hi : IntsAre vs ns) (hlen : ns.length ≤ 40) (k0 : 0 ≤ k) (k1 : k ≤ 80)
    (hd : dp + 10 < recursionLimit) (hu : un + 300 < cLine)
    (ret : ∀ (D lp : Addr) (f : Int) (fcs : List Nat) (wd pr : Int) (l : Ltr) (k' : Int) (tt u0 u1 u2 u3 u4 u5 : Tok) (h' : Heap) (tk' : Nat), (-1 ≤ f ∧ f ≤ 2) → fcs.length ≤ 4 → (∀ c ∈ fcs, c ∈ (Str.ofString "-+ 0#").cps.toList) → wd ∈ [0, 0, 1, 5, 12, 30] → pr ∈ [-1, -1, -1, 0, 3, 9] → k ≤ k' → k' ≤ k + 9 → Fr h₀ L h' m →
      News h₀ L h' ((D, { cls := .type "tuple", data := .seq [.ref lp, .str ⟨(fieldC f ++ fcs ++ widthC wd ++ precC pr ++ [l.code]).toArray⟩ u5].toArray }) :: (lp, listOf [.int f u0, .str ⟨fcs.toArray⟩ u1, .int wd u2, .int pr u3, .str l.str u4].toArray 0) :: (d, listOf [.ref lx, .int k' tt].toArray nd) :: (lx, listOf vs.toArray nx) :: rest) →
      (@LT.lt Nat _ d lp ∧ @LT.lt Nat _ lx lp ∧ AllLt lp rest) → (@LT.lt Nat _ lp D ∧ @LT.lt Nat _ d D ∧ @LT.lt Nat _ lx D ∧ AllLt D rest) → Q (.ref D) { s with heap := h', toks := tk' }) :
    wpAny (model prog w) (ktrTop dp un gd cn cs L a ccd cl outer) (call (.ref 116) [.ref d]) Q E s := by
  refine wpAny_call ?_
  k_dflt (refine' code_defC ?k1 ?k2 ?k3 ?k4 ?k5 ?kA ?kF ?kK ?k6 ?k7 ?k8 ?k9 ?kB ?kD ?_ ?c2 ?c3 ?c4; (case kA => exact rfl); (case kF => exact rfl); (case kK => assumption); (case k1 => k_asm); (case k2 => k_asm); (case k3 => k_asm); (case k4 => k_asm); (case k5 => k_asm); (case k6 => k_is); (case k7 => k_is); (case k8 => ktr_room); (case k9 => exact BindsTo.of_eq rfl); (case kB => exact rfl); (case kD => decide +kernel); (case c2 => exact rfl); (case c3 => exact rfl); (case c4 => exact rfl); k_whole)
  intro g' L' h' tk' cells' FG' F' N' Y' B' X' T' l1; (try k_lt l1); have hY := CellsAre.one Y'; obtain ⟨oc, hE, hcell⟩ := hY; subst hE; clear Y'; (try simp only [List.cons_append, List.nil_append] at N'); (try dsimp only); (try k_fold)
  replace hcell : oc.data = .cell (some (.ref d)) := hcell
  (repeat' ((fail_if_success (with_reducible show wpAny _ _ (exec (Stmt.Assign _ _ _) _) _ _ _)); walk_at "my step"))
  with_reducible refine mid_j (fun Qm => ∀ (h' : Heap) (tk' : Nat) (mq : Str → Option Value) (f : Int) (fcs : List Nat) (kk : Int) (tt q0 q1 : Tok), Fr g' L' h' mq → mq (Str.ofString "field") = some (.int f q0) → mq (Str.ofString "flags") = some (.str ⟨fcs.toArray⟩ q1) → -1 ≤ f → f ≤ 2 → fcs.length ≤ 4 → (∀ c ∈ fcs, c ∈ (Str.ofString "-+ 0#").cps.toList) → k + 2 ≤ kk → kk ≤ k + 6 → News g' L' h' ((L' + 1, oc) :: (d, listOf #[.ref lx, .int kk tt] nd) :: (lx, listOf vs.toArray nx) :: rest) → Qm .next { s with heap := h', toks := tk' }) ?_ ?_
  · intro Qm hQm
    skip
    (repeat' ((fail_if_success (with_reducible show wpAny _ _ (call (Value.ref 104) _) _ _ _)); walk_at "my step"))
    k_dflt (refine' draw_K ?kB ?kF ?kX ?kT ?kK ?kN ?kU ?kl ?kd ?ki ?kz ?k0 ?k1 ?km ?kr ?ku ?_; (case kB => k_asm); (case kF => k_asm); (case kX => k_asm); (case kT => k_asm); (case kK => first | exact rfl | assumption); (case kN => k_asm); (case kU => k_updF); (case kl => is_list); (case kd => k_ne); (case ki => assumption); (case kz => assumption); (case k0 => omega); (case k1 => omega); (case km => first | omega | decide); (case kr => ktr_room); (case ku => ktr_units))
    intro rf tr1 tv1 hh1 tk1 rf0 rf1 FF1 NN1 KK1
    (try dsimp only at NN1); (try dsimp only); (try k_fold)
    (repeat' ((fail_if_success (with_reducible show wpAny _ _ (call (Value.ref 104) _) _ _ _)); walk_at "my step"))
    k_dflt (refine' draw_K ?kB ?kF ?kX ?kT ?kK ?kN ?kU ?kl ?kd ?ki ?kz ?k0 ?k1 ?km ?kr ?ku ?_; (case kB => k_asm); (case kF => k_asm); (case kX => k_asm); (case kT => k_asm); (case kK => first | exact rfl | assumption); (case kN => k_asm); (case kU => k_updF); (case kl => is_list); (case kd => k_ne); (case ki => assumption); (case kz => assumption); (case k0 => omega); (case k1 => omega); (case km => first | omega | decide); (case kr => ktr_room); (case ku => ktr_units))
    intro rn tr2 tv2 hh2 tk2 rn0 rn1 FF2 NN2 KK2
    (try dsimp only at NN2); (try dsimp only); (try k_fold)
    (repeat' (walk_at "my step"))
    refine comp_inv (fun i ys nw => ∃ (fcs : List Nat) (kk : Int) (tt : Tok), nw = (L' + 1, oc) :: (d, listOf #[.ref lx, .int kk tt] nd) :: (lx, listOf vs.toArray nx) :: rest ∧ fcs.length = i ∧ (∀ c ∈ fcs, c ∈ (Str.ofString "-+ 0#").cps.toList) ∧
       StrsAre ys (fcs.map fun c => ⟨#[c]⟩) ∧ k + 2 ≤ kk ∧ kk ≤ k + 2 + i) ⟨[], _, _, rfl, rfl, (fun _ h => nomatch h), .nil, by omega, by omega⟩ ?_ ?_
    · intro i v ys nw I oI C oC D m₂ h tk E' hin hv hJ hC hx F9 N9 off ne
      refine aside ?_
      intro gA hA
      obtain ⟨fcs, kk, tt, rfl, hfl, hfc, hys, hk1, hk2⟩ := hJ
      refine hA ?_
      clear hA gA
      have off0 := off
      have hkk0 : 0 ≤ kk := by clear off ne; omega
      have hkk1 : kk ≤ 100 := by clear off ne; omega
      simp only [LCg.Off3] at off
      have nI : @Ne Nat I d := fun q => off.2.1.1 q.symm
      have nC : @Ne Nat C d := fun q => off.2.1.2.1 q.symm
      have nD : @Ne Nat D d := fun q => off.2.1.2.2 q.symm
      (repeat' ((fail_if_success (with_reducible show wpAny _ _ (call (Value.ref 111) _) _ _ _)); walk_at "my step"))
      k_dflt (refine' pickS_K ?kB ?kF ?kX ?kT ?kK ?kN ?kU ?kl ?kd ?ki ?kz ?k0 ?k1 ?m0 ?m1 ?kr ?ku ?_; (case kB => k_asm); (case kF => k_asm); (case kX => k_asm); (case kT => k_asm); (case kK => first | exact rfl | assumption); (case kN => k_asm); (case kU => k_updF); (case kl => is_list); (case kd => k_ne); (case ki => assumption); (case kz => assumption); (case k0 => omega); (case k1 => omega); (case m0 => decide +kernel); (case m1 => decide +kernel); (case kr => ktr_room); (case ku => ktr_units))
      intro c tc tvc hhc tkc hcm FFc NNc KKc
      (try dsimp only at NNc); (try dsimp only); (try k_fold)
      (repeat' (walk_at "my step"))
      exact LCg.CompEnd.intro FFc NNc _ (fun p hp => hp) ⟨off0.1, off0.2.1, off0.2.2.1, off0.2.2.2⟩ True.intro ⟨fcs ++ [c], kk + 1, _, rfl, by simp [hfl], (fun z hz => by rcases List.mem_append.mp hz with q | q; exact hfc z q; rw [List.mem_singleton.mp q]; exact hcm), by rw [List.map_append]; exact hys.append' (.cons _ _ .nil), by omega, by omega⟩
    · intro ys nw hJ
      refine aside ?_
      intro gA hA
      obtain ⟨fcs, kk, tt, rfl, hfl, hfc, hys, hk1, hk2⟩ := hJ
      refine hA ?_
      clear hA gA
      have hn4 : fcs.length ≤ 4 := by omega
      (repeat' (walk_at "my step"))
      rename Fr g' L' _ _ => F8
      rename News g' L' _ _ => N8
      exact hQm _ _ _ (rf - 1) fcs kk tt _ _ F8 (by first | exact rfl | assumption) (by first | exact rfl | assumption) (by omega) (by omega) hn4 hfc (by omega) (by omega) (fun p hp => N8 p (by first | exact hp | exact List.Mem.tail _ hp | exact List.Mem.tail _ (List.Mem.tail _ hp)))
  rintro h1 tk1 mq1 f fcs ka ta q0 q1 F1 e0 e1 hf0 hf1 hn4 hfc ha0 ha1 N1
  (try dsimp only)
  (repeat' ((fail_if_success (with_reducible show wpAny _ _ (exec (Stmt.Assign _ _ _) _) _ _ _)); walk_at "my step"))
  with_reducible refine mid_j (fun Qm => ∀ (h' : Heap) (tk' : Nat) (mq : Str → Option Value) (wd pr kk : Int) (tt q0 q1 q2 q3 : Tok), Fr g' L' h' mq → mq (Str.ofString "field") = some (.int f q0) → mq (Str.ofString "flags") = some (.str ⟨fcs.toArray⟩ q1) → mq (Str.ofString "width") = some (.int wd q2) → mq (Str.ofString "precision") = some (.int pr q3) → wd ∈ [0, 0, 1, 5, 12, 30] → pr ∈ [-1, -1, -1, 0, 3, 9] → ka + 2 = kk → News g' L' h' ((L' + 1, oc) :: (d, listOf #[.ref lx, .int kk tt] nd) :: (lx, listOf vs.toArray nx) :: rest) → Qm .next { s with heap := h', toks := tk' }) ?_ ?_
  · intro Qm hQm
    skip
    (repeat' ((fail_if_success (with_reducible show wpAny _ _ (call (Value.ref 104) _) _ _ _)); walk_at "my step"))
    k_dflt (refine' draw_K ?kB ?kF ?kX ?kT ?kK ?kN ?kU ?kl ?kd ?ki ?kz ?k0 ?k1 ?km ?kr ?ku ?_; (case kB => k_asm); (case kF => k_asm); (case kX => k_asm); (case kT => k_asm); (case kK => first | exact rfl | assumption); (case kN => k_asm); (case kU => k_updF); (case kl => is_list); (case kd => k_ne); (case ki => assumption); (case kz => assumption); (case k0 => omega); (case k1 => omega); (case km => first | omega | decide); (case kr => ktr_room); (case ku => ktr_units))
    intro rw tr3 tv3 hh3 tk3 rw0 rw1 FF3 NN3 KK3
    (try dsimp only at NN3); (try dsimp only); (try k_fold)
    (repeat' ((fail_if_success (with_reducible show wpAny _ _ (call (Value.ref 104) _) _ _ _)); walk_at "my step"))
    k_dflt (refine' draw_K ?kB ?kF ?kX ?kT ?kK ?kN ?kU ?kl ?kd ?ki ?kz ?k0 ?k1 ?km ?kr ?ku ?_; (case kB => k_asm); (case kF => k_asm); (case kX => k_asm); (case kT => k_asm); (case kK => first | exact rfl | assumption); (case kN => k_asm); (case kU => k_updF); (case kl => is_list); (case kd => k_ne); (case ki => assumption); (case kz => assumption); (case k0 => omega); (case k1 => omega); (case km => first | omega | decide); (case kr => ktr_room); (case ku => ktr_units))
    intro rp tr4 tv4 hh4 tk4 rp0 rp1 FF4 NN4 KK4
    (try dsimp only at NN4); (try dsimp only); (try k_fold)
    (repeat' (walk_at "my step"))
    rename Fr g' L' _ _ => F8
    rename News g' L' _ _ => N8
    exact hQm _ _ _ _ _ (ka + 2) _ _ _ _ _ F8 (by first | exact rfl | assumption) (by first | exact rfl | assumption) (by first | exact rfl | assumption) (by first | exact rfl | assumption) (getD_mem (by simp only [List.length_cons, List.length_nil]; omega)) (getD_mem (by simp only [List.length_cons, List.length_nil]; omega)) rfl (fun p hp => N8 p (by rw [show ka + 2 = ka + 1 + 1 by omega] at hp; exact List.Mem.tail _ (List.Mem.tail _ (List.Mem.tail _ hp))))
  rintro h2 tk2 mq2 wd pr kb tb q0 q1 q2 q3 F2 e0 e1 e2 e3 hwd hpr hkb N2
  (try dsimp only)
  (repeat' ((fail_if_success (with_reducible show wpAny _ _ (exec (Stmt.Assign _ _ _) _) _ _ _)); walk_at "my step"))
  with_reducible refine mid_j (fun Qm => ∀ (h' : Heap) (tk' : Nat) (mq : Str → Option Value) (l : Ltr) (kk : Int) (tt q0 q1 q2 q3 q4 : Tok), Fr g' L' h' mq → mq (Str.ofString "field") = some (.int f q0) → mq (Str.ofString "flags") = some (.str ⟨fcs.toArray⟩ q1) → mq (Str.ofString "width") = some (.int wd q2) → mq (Str.ofString "precision") = some (.int pr q3) → mq (Str.ofString "letter") = some (.str l.str q4) → kb + 1 = kk → News g' L' h' ((L' + 1, oc) :: (d, listOf #[.ref lx, .int kk tt] nd) :: (lx, listOf vs.toArray nx) :: rest) → Qm .next { s with heap := h', toks := tk' }) ?_ ?_
  · intro Qm hQm
    (repeat' ((fail_if_success (with_reducible show wpAny _ _ (call (Value.ref 111) _) _ _ _)); walk_at "my step"))
    k_dflt (refine' pickS_K ?kB ?kF ?kX ?kT ?kK ?kN ?kU ?kl ?kd ?ki ?kz ?k0 ?k1 ?m0 ?m1 ?kr ?ku ?_; (case kB => k_asm); (case kF => k_asm); (case kX => k_asm); (case kT => k_asm); (case kK => first | exact rfl | assumption); (case kN => k_asm); (case kU => k_updF); (case kl => is_list); (case kd => k_ne); (case ki => assumption); (case kz => assumption); (case k0 => omega); (case k1 => omega); (case m0 => decide +kernel); (case m1 => decide +kernel); (case kr => ktr_room); (case ku => ktr_units))
    intro c tc tvc hhc tkc hcm FFc NNc KKc
    (try dsimp only at NNc); (try dsimp only); (try k_fold)
    refine aside ?_
    intro gA hA
    obtain ⟨l, hl⟩ := ltr_of hcm
    refine hA ?_
    clear hA gA
    rw [← hl]
    (repeat' (walk_at "my step"))
    rename Fr g' L' _ _ => F8
    rename News g' L' _ _ => N8
    exact hQm _ _ _ l (kb + 1) _ _ _ _ _ _ F8 (by first | exact rfl | assumption) (by first | exact rfl | assumption) (by first | exact rfl | assumption) (by first | exact rfl | assumption) (by first | exact rfl | assumption) rfl N8
  rintro h3 tk3 mq3 l kc tc q0 q1 q2 q3 q4 F3 e0 e1 e2 e3 e4 hkc N3
  (try dsimp only)
  have hT1 := lenT hf0 hf1
  have hT2 := lenW hwd
  have hw01 := wd_rng hwd
  have hp01 := pr_rng hpr
  (repeat' ((fail_if_success (with_reducible show wpAny _ _ (exec (Stmt.Assign _ _ _) _) _ _ _)); walk_at "my step"))
  with_reducible refine mid_j (fun Qm => ∀ (h' : Heap) (tk' : Nat) (mq : Str → Option Value) (q0 q1 q2 q3 q4 q5 : Tok), Fr g' L' h' mq → mq (Str.ofString "field") = some (.int f q0) → mq (Str.ofString "flags") = some (.str ⟨fcs.toArray⟩ q1) → mq (Str.ofString "width") = some (.int wd q2) → mq (Str.ofString "precision") = some (.int pr q3) → mq (Str.ofString "letter") = some (.str l.str q4) → mq (Str.ofString "text") = some (.str ⟨(fieldC f ++ fcs ++ widthC wd).toArray⟩ q5) → News g' L' h' ((L' + 1, oc) :: (d, listOf #[.ref lx, .int kc tc] nd) :: (lx, listOf vs.toArray nx) :: rest) → Qm .next { s with heap := h', toks := tk' }) ?_ ?_
  · intro Qm hQm
    (repeat' (walk_at "my step"))
    all_goals (
      rename Fr g' L' _ _ => F8
      rename News g' L' _ _ => N8
      first
      | (rw [textNN (by assumption) (by assumption)] at F8)
      | (rw [fieldS (by assumption) hf1, widthS hwd (by assumption)] at F8)
      | (rw [fieldS (by assumption) hf1, widthN (by assumption)] at F8)
      | (rw [fieldN (by assumption), widthS hwd (by assumption)] at F8)
      simp only [mk_append] at F8
      exact hQm _ _ _ _ _ _ _ _ _ F8 (by first | exact rfl | assumption) (by first | exact rfl | assumption) (by first | exact rfl | assumption) (by first | exact rfl | assumption) (by first | exact rfl | assumption) (by first | exact rfl | assumption) N8)
  rintro h4 tk4 mq4 q0 q1 q2 q3 q4 q5 F4 e0 e1 e2 e3 e4 e5 N4
  have hC1 := fieldC_len f
  have hC2 := widthC_len wd
  have hC3 := lenP hpr
  (try dsimp only)
  (repeat' (walk_at "my step"))
  all_goals (
    rename News h₀ L _ _ => N9
    rename (@LT.lt Nat _ (L' + 1) _ ∧ _ ∧ _ ∧ AllLt _ rest) => hlp
    rename (@LT.lt Nat _ _ _ ∧ @LT.lt Nat _ (L' + 1) _ ∧ _ ∧ _ ∧ AllLt _ rest) => hlD
    first
    | rw [precS hpr (by assumption)] at N9
    | rw [precN (by assumption)] at N9
    rw [str_mk l, mk_append, mk_append] at N9
    rw [← str_mk l] at N9
    exact ret _ _ f fcs wd pr l kc tc _ _ _ _ _ _ _ _ ⟨hf0, hf1⟩ hn4 hfc hwd hpr (by omega) (by omega) (by k_asm) (news_drop3 N9) ⟨hlp.2.1, hlp.2.2.1, hlp.2.2.2⟩ ⟨hlD.1, hlD.2.2.1, hlD.2.2.2.1, hlD.2.2.2.2⟩)
end
end Mine
end
section
set_option Elab.async false
namespace Mine
open PySem PySem.W PySem.Spec PySem.Builtin PySem.Builtin.Str PySem.Calls PyProof.Rows
theorem has_mem {cs : List Nat} {c : Nat} {s : String} (hs : Str.ofString s = ⟨#[c]⟩) : has ⟨cs.toArray⟩ s = decide (c ∈ cs) := by
  unfold has; rw [hs, StrLaws.found_one]
theorem tw_rep {p : Nat → Bool} {c : Nat} (hc : p c = true) (r : List Nat) : ∀ a : Nat, ((List.replicate a c ++ r).takeWhile p).length = a + (r.takeWhile p).length
  | 0 => by simp
  | a + 1 => by
    rw [List.replicate_succ, List.cons_append, List.takeWhile_cons, if_pos hc, List.length_cons, tw_rep hc r a]; omega
theorem tw_none {p : Nat → Bool} {r : List Nat} (h : ∀ d t, r = d :: t → p d = false) : (r.takeWhile p).length = 0 := by
  cases r with
  | nil => rfl
  | cons d t => rw [List.takeWhile_cons, if_neg (by rw [h d t rfl]; decide)]; rfl
theorem sub_mk (a : List Nat) (i j : Nat) : strSub ⟨a.toArray⟩ i j = ⟨((a.drop i).take (j - i)).toArray⟩ := by
  unfold strSub
  simp
theorem strip_l {goes : Nat → Bool} {c a : Nat} {r : List Nat} (hc : goes c = true) (h : ∀ d t, r = d :: t → goes d = false) : Txt.stripBy goes true false ⟨(List.replicate a c ++ r).toArray⟩ = ⟨r.toArray⟩ := by
  rw [PyProof.Rows.stripBy_eq, sub_mk]
  have e : stripLo goes true ⟨(List.replicate a c ++ r).toArray⟩ = a := by
    simp only [stripLo, if_true]
    show ((List.replicate a c ++ r).toArray.toList.takeWhile goes).length = a
    rw [List.toList_toArray, tw_rep hc, tw_none h]; rfl
  rw [e]
  simp only [stripHi, len_mk, Bool.false_eq_true, if_false]
  rw [List.drop_append_of_le_length (by simp), List.drop_of_length_le (by simp), List.nil_append, List.take_of_length_le (by simp)]
theorem strip_b {goes : Nat → Bool} {c a b : Nat} {r : List Nat} (hc : goes c = true) (h : ∀ d ∈ r, goes d = false) (hr : r ≠ []) : Txt.stripBy goes true true ⟨(List.replicate a c ++ r ++ List.replicate b c).toArray⟩ = ⟨r.toArray⟩ := by
  rw [PyProof.Rows.stripBy_eq, sub_mk]
  have e : stripLo goes true ⟨(List.replicate a c ++ r ++ List.replicate b c).toArray⟩ = a := by
    simp only [stripLo, if_true]
    show ((List.replicate a c ++ r ++ List.replicate b c).toArray.toList.takeWhile goes).length = a
    rw [List.toList_toArray, List.append_assoc, tw_rep hc, tw_none]; · rfl
    intro d t e
    cases r with
    | nil => exact absurd rfl hr
    | cons q w => rw [List.cons_append] at e; injection e with e1 e2; rw [← e1]; exact h q (.head _)
  rw [e]
  have e2 : stripHi goes true ⟨(List.replicate a c ++ r ++ List.replicate b c).toArray⟩ a = a + r.length := by
    simp only [stripHi, if_true, len_mk]
    rw [List.append_assoc, List.drop_append_of_le_length (by simp), List.drop_of_length_le (by simp), List.nil_append, List.reverse_append, List.reverse_replicate, tw_rep hc, tw_none]
    · simp only [List.length_append, List.length_replicate]; omega
    · intro d t e
      exact h d (List.mem_reverse.mp (by rw [e]; exact .head _))
  rw [e2, List.append_assoc, List.drop_append_of_le_length (by simp), List.drop_of_length_le (by simp), List.nil_append]
  rw [show a + r.length - a = r.length by omega, List.take_left]
theorem strip_r {goes : Nat → Bool} {c b : Nat} {r : List Nat} (hc : goes c = true) (h : ∀ d t, r.reverse = d :: t → goes d = false) : Txt.stripBy goes false true ⟨(r ++ List.replicate b c).toArray⟩ = ⟨r.toArray⟩ := by
  rw [PyProof.Rows.stripBy_eq, sub_mk]
  have e : stripLo goes false ⟨(r ++ List.replicate b c).toArray⟩ = 0 := by simp only [stripLo, Bool.false_eq_true, if_false]
  rw [e]
  have e2 : stripHi goes true ⟨(r ++ List.replicate b c).toArray⟩ 0 = r.length := by
    simp only [stripHi, if_true, len_mk, List.drop_zero]
    rw [List.reverse_append, List.reverse_replicate, tw_rep hc, tw_none h]
    simp only [List.length_append, List.length_replicate]; omega
  rw [e2, List.drop_zero, Nat.sub_zero, List.take_left]
theorem starts_mk (p r : List Nat) : Txt.startswith ⟨(p ++ r).toArray⟩ ⟨p.toArray⟩ = true := by
  unfold Txt.startswith
  rw [Bool.and_eq_true]
  refine ⟨by rw [len_mk, len_mk]; simp, ?_⟩
  unfold subAt
  rw [len_mk]
  simp
theorem slice_mk (p r : List Nat) : Txt.slice ⟨(p ++ r).toArray⟩ (some (p.length : Int)) none = ⟨r.toArray⟩ := by
  rw [slice_from_eq (b := (((p ++ r).length : Nat) : Int)) (by omega) (by rw [len_mk]; simp; omega) (by rw [len_mk])]
  have : ((p.length : Int)).toNat = p.length := by omega
  rw [this]
  show (⟨(((p ++ r).drop p.length).take _).toArray⟩ : Str) = _
  rw [List.drop_left, List.take_of_length_le (by simp; omega)]
theorem slice_one (c : Nat) (r : List Nat) : Txt.slice ⟨(c :: r).toArray⟩ none (some 1) = ⟨#[c]⟩ := by
  rw [beq_iff_eq.mp (slice_closes_to (x := ⟨(c :: r).toArray⟩) (j := 1) ⟨by decide, by simp; omega⟩)]
  simp
theorem goes_one {s : String} {c : Nat} (hs : Str.ofString s = ⟨#[c]⟩) (d : Nat) : (Str.ofString s).cps.contains d = (d == c) := by
  rw [hs]
  show (#[c] : Array Nat).contains d = _
  rw [Bool.eq_iff_iff, Array.contains_iff_mem, beq_iff_eq]; simp
end Mine
namespace Mine
open PySem PySem.W PySem.Calls PyProof.Rows
theorem digs_lt (l : Ltr) (n : Nat) : ∀ d ∈ digs l n, d < l.radix := by
  have hr := l.radix2
  induction n using Nat.strongRecOn with
  | _ n ih =>
    rw [digs]
    intro d hd
    rcases List.mem_cons.mp hd with rfl | hd
    · exact Nat.mod_lt _ (by omega)
    · split at hd
      · cases hd
      · rename_i h
        exact ih _ (Nat.div_lt_self (by omega) (by omega)) d hd
theorem worth_app (l : Ltr) (xs : List Nat) (d : Nat) : worth l (xs ++ [d]) = worth l xs * l.radix + d := by
  unfold worth; rw [List.foldl_append]; rfl
theorem worth_digs (l : Ltr) (n : Nat) : worth l (digs l n).reverse = n := by
  have hr := l.radix2
  induction n using Nat.strongRecOn with
  | _ n ih =>
    rw [digs, List.reverse_cons, worth_app]
    split
    · rename_i h
      show 0 * _ + n % l.radix = n
      rw [Nat.mod_eq_of_lt h]; omega
    · rename_i h
      rw [ih _ (Nat.div_lt_self (by omega) (by omega))]
      have := Nat.div_add_mod n l.radix
      rw [Nat.mul_comm]; omega
theorem worth_zeros (l : Ltr) (xs : List Nat) : ∀ z : Nat, worth l (List.replicate z 0 ++ xs) = worth l xs
  | 0 => rfl
  | z + 1 => by
    have := worth_zeros l xs z
    unfold worth at this ⊢
    rw [List.replicate_succ, List.cons_append, List.foldl_cons]
    simpa using this
theorem digs_last (l : Ltr) (n : Nat) (h : n ≠ 0) : ∀ d t, (digs l n).reverse = d :: t → d ≠ 0 := by
  have hr := l.radix2
  induction n using Nat.strongRecOn with
  | _ n ih =>
    rw [digs]
    intro d t e
    split at e
    · rename_i hlt
      rw [List.reverse_singleton] at e
      injection e with e1 e2
      rw [← e1, Nat.mod_eq_of_lt hlt]; exact h
    · rename_i hlt
      rw [List.reverse_cons] at e
      have hq : n / l.radix ≠ 0 := by
        have : 0 < n / l.radix := Nat.div_pos (by omega) (by omega)
        omega
      cases hR : (digs l (n / l.radix)).reverse with
      | nil =>
        have : (digs l (n / l.radix)) = [] := by simpa using hR
        rw [digs] at this; cases this
      | cons q w =>
        rw [hR, List.cons_append] at e
        injection e with e1 e2
        rw [← e1]
        exact ih _ (Nat.div_lt_self (by omega) (by omega)) hq q w hR
theorem digs_zero (l : Ltr) : digs l 0 = [0] := by
  have hr := l.radix2
  rw [digs]
  rw [dif_pos (by omega)]; simp
theorem dch_all (l : Ltr) : ∀ d : Fin 16, sgn l ((d.val : Nat) : Int) = ((dch l d.val : Nat) : Int) ∧ dch l d.val < 128 ∧ dch l d.val ≠ 32 ∧ (dch l d.val = 48 ↔ d.val = 0) := by cases l <;> decide +kernel
theorem dch_at {l : Ltr} {d : Nat} (h : d < l.radix) : sgn l (d : Int) = ((dch l d : Nat) : Int) ∧ dch l d < 128 ∧ dch l d ≠ 32 ∧ (dch l d = 48 ↔ d = 0) :=
  dch_all l ⟨d, by have := l.radix2; omega⟩
theorem figs_cast (l : Ltr) (n : Nat) : (figs l n).reverse = (((digs l n).reverse.map (dch l))).map fun c : Nat => (c : Int) := by
  unfold figs
  rw [← List.map_reverse, List.map_map]
  refine List.map_congr_left fun d hd => ?_
  exact (dch_at (digs_lt l n d (List.mem_reverse.mp hd))).1
end Mine
end
section
set_option Elab.async false
namespace Mine
open PySem PySem.W PySem.Spec PySem.Builtin PySem.Builtin.Str PySem.Calls PyProof.Rows
theorem off_Q2 : True := by
  w_top off
  trivial
local macro_rules | `(tactic| walk_at "none") => `(tactic| skip)
local macro_rules | `(tactic| walk_at "none") => `(tactic| skip)
local macro_rules | `(tactic| walk_at "none") => `(tactic| skip)
local macro_rules | `(tactic| walk_at "none") => `(tactic| skip)
local macro_rules | `(tactic| walk_at "none") => `(tactic| skip)
theorem sp1 : Str.ofString " " = ⟨#[32]⟩ := by decide +kernel
theorem sp0 : Str.ofString "0" = ⟨#[48]⟩ := by decide +kernel
theorem dch0 (l : Ltr) : dch l 0 = 48 := by cases l <;> decide +kernel
theorem size300 : (300 : Nat) ≤ sizeLine := by decide +kernel
theorem right_core {l : Ltr} {lt flags : Str} {n wd pr : Int} {a b z : Nat} {hd mk D X : List Nat} {BR LS RS BR2 : Str} {a0 : Int}
    (hX : X.length = a + hd.length + mk.length + z + D.length + b) (hs : X.length ≤ 290)
    (hsg : ⟨hd.toArray⟩ = sgOf flags n) (hmk : ⟨mk.toArray⟩ = mkOf flags lt l n)
    (hD : ∀ d ∈ D, d < l.radix) (hw : worth l D = n.natAbs) (hn : n ≠ 0 → ∀ d t, D = d :: t → d ≠ 0) (h0 : n = 0 → D = [0]) (hne : D ≠ [])
    (hz : has flags "#" = true → l = .o → 0 < z ∨ n = 0)
    (hlen : (z + D.length : Int) = max (needB flags l n pr wd D.length hd.length mk.length) D.length)
    (hxl : (X.length : Int) = max wd (hd.length + mk.length + (z + D.length)))
    (h3 : if has flags "-" = true then a = 0 else b = 0)
    (q1 : Txt.stripChars ⟨X.toArray⟩ (Str.ofString " ") = BR) (q2 : Txt.lstripChars ⟨X.toArray⟩ (Str.ofString " ") = LS) (q3 : Txt.rstripChars ⟨X.toArray⟩ (Str.ofString " ") = RS)
    (l1 : BR.length ≤ 290) (l2 : (X.length : Int) - LS.length = a0) (l3 : (X.length : Int) - RS.length = b)
    (eb : ((⟨hd.toArray⟩ : Str) == Str.ofString " ") = true → Str.ofString " " ++ BR = BR2 ∧ a0 - 1 = a) (eb' : ((⟨hd.toArray⟩ : Str) == Str.ofString " ") = false → BR = BR2 ∧ a0 = a)
    (e2 : BR2 = ⟨(hd ++ (mk ++ (List.replicate z 48 ++ D.map (dch l)))).toArray⟩) :
    Right l lt flags ⟨X.toArray⟩ BR LS RS BR2 ⟨(mk ++ (List.replicate z 48 ++ D.map (dch l))).toArray⟩ ⟨(List.replicate z 48 ++ D.map (dch l)).toArray⟩ (if n ≠ 0 then ⟨(D.map (dch l)).toArray⟩ else Str.ofString "0") ⟨hd.toArray⟩ ⟨mk.toArray⟩ (List.replicate z 0 ++ D) wd pr n a b a0 := by
  have hPL : (if n ≠ 0 then (⟨(D.map (dch l)).toArray⟩ : Str) else Str.ofString "0").length = D.length := by
    split
    · rw [len_mk, List.length_map]
    · rename_i h
      rw [h0 (by omega)]; decide +kernel
  have s3 := size300
  subst e2
  have hT : a + hd.length + mk.length + z + D.length + b ≤ 290 := by rw [← hX]; exact hs
  constructor
  · clear hlen hxl hT; rw [len_mk]; omega
  · clear hlen hxl hT; omega
  · clear hlen hxl hX hs; rw [len_mk, List.length_append, List.length_append, List.length_append, List.length_replicate, List.length_map]; omega
  · clear hlen hxl hX hs; rw [len_mk, List.length_append, List.length_append, List.length_replicate, List.length_map]; omega
  · clear hlen hxl hX hs; rw [len_mk, List.length_append, List.length_replicate, List.length_map]; omega
  · exact q1
  · exact q2
  · exact q3
  · rw [len_mk]; exact l2
  · rw [len_mk]; exact l3
  · exact hsg
  · exact eb
  · exact eb'
  · exact starts_mk _ _
  · exact Int.natCast_nonneg a
  · clear hlen hxl hX hs hT; split at h3 <;> omega
  · rw [len_mk]; exact slice_mk _ _
  · exact hmk
  · exact starts_mk _ _
  · rw [len_mk]; exact slice_mk _ _
  · rw [List.map_append, List.map_replicate, dch0]
  · intro d hd
    rcases List.mem_append.mp hd with h | h
    · rw [List.eq_of_mem_replicate h]; have := l.radix2; omega
    · exact hD d h
  · rw [worth_zeros]; exact hw
  · split
    · rename_i h
      refine (strip_l (by rw [goes_one sp0]; rfl) ?_).symm
      intro d t e
      cases D with
      | nil => exact absurd rfl hne
      | cons q w =>
        rw [List.map_cons] at e
        injection e with e1 e2
        rw [goes_one sp0, ← e1, beq_eq_false_iff_ne]
        exact fun q2 => hn h q w rfl ((dch_at (hD q (.head _))).2.2.2.mp q2)
    · rfl
  · intro h1 h2
    have : ∃ r, List.replicate z 48 ++ D.map (dch l) = 48 :: r := by
      rcases hz h1 h2 with h | h
      · cases z with
        | zero => omega
        | succ z => exact ⟨_, by rw [List.replicate_succ, List.cons_append]⟩
      · rw [h0 h, List.map_cons, List.map_nil, dch0]
        cases z with
        | zero => exact ⟨[], rfl⟩
        | succ z => exact ⟨_, by rw [List.replicate_succ, List.cons_append]⟩
    obtain ⟨r, e⟩ := this
    rw [e, sp0]
    exact slice_one _ _
  · rw [hPL, len_mk, len_mk, len_mk, List.length_append, List.length_replicate, List.length_map]
    rw [← hlen, Int.natCast_add]
  · rw [len_mk, len_mk, len_mk, len_mk, List.length_append, List.length_replicate, List.length_map, hxl, Int.natCast_add]
  · split at h3
    · rename_i h; rw [if_pos h]; clear hlen hxl hX hs hT; omega
    · rename_i h; rw [if_neg h]; clear hlen hxl hX hs hT; omega
theorem right_of {l : Ltr} {lt flags : Str} {n wd pr : Int} {a b z : Nat} {hd mk D : List Nat}
    (hhd : hd = [] ∨ hd = [45] ∨ hd = [43] ∨ hd = [32]) (hmb : ∀ c ∈ mk, c ≠ 32) 
    (hs : a + hd.length + mk.length + z + D.length + b ≤ 290)
    (hsg : ⟨hd.toArray⟩ = sgOf flags n) (hmk : ⟨mk.toArray⟩ = mkOf flags lt l n)
    (hD : ∀ d ∈ D, d < l.radix) (hw : worth l D = n.natAbs) (hn : n ≠ 0 → ∀ d t, D = d :: t → d ≠ 0) (h0 : n = 0 → D = [0]) (hne : D ≠ [])
    (hz : has flags "#" = true → l = .o → 0 < z ∨ n = 0)
    (hlen : (z + D.length : Int) = max (needB flags l n pr wd D.length hd.length mk.length) D.length)
    (hxl : ((a + hd.length + mk.length + z + D.length + b : Nat) : Int) = max wd (hd.length + mk.length + (z + D.length)))
    (h3 : if has flags "-" = true then a = 0 else b = 0) :
    ∃ BR LS RS BR2 FG G PL sg mk' ds La Tr a0, Right l lt flags ⟨(List.replicate a 32 ++ (hd ++ (mk ++ (List.replicate z 48 ++ D.map (dch l)))) ++ List.replicate b 32).toArray⟩ BR LS RS BR2 FG G PL sg mk' ds wd pr n La Tr a0 := by
  have hbody : ∀ c ∈ (mk ++ (List.replicate z 48 ++ D.map (dch l))), c ≠ 32 := by
    intro c hc
    rcases List.mem_append.mp hc with h | h
    · exact hmb c h
    rcases List.mem_append.mp h with h | h
    · rw [List.eq_of_mem_replicate h]; decide
    · obtain ⟨d, hd1, rfl⟩ := List.mem_map.mp h
      exact (dch_at (hD d hd1)).2.2.1
  have hbn : (mk ++ (List.replicate z 48 ++ D.map (dch l))) ≠ [] := by
    intro e
    have := (List.append_eq_nil_iff.mp (List.append_eq_nil_iff.mp e).2).2
    rw [List.map_eq_nil_iff] at this
    exact hne this
  have hbl : (mk ++ (List.replicate z 48 ++ D.map (dch l))).length = mk.length + z + D.length := by simp; omega
  have g32 : ∀ r : List Nat, (∀ c ∈ r, c ≠ 32) → ∀ d ∈ r, (Str.ofString " ").cps.contains d = false := fun r h d hd => by rw [goes_one sp1, beq_eq_false_iff_ne]; exact h d hd
  have g32' : (Str.ofString " ").cps.contains 32 = true := by rw [goes_one sp1]; rfl
  by_cases hc : hd = [32]
  · subst hc
    have hcp := fun BR LS RS BR2 a0 => right_core (l := l) (lt := lt) (flags := flags) (n := n) (wd := wd) (pr := pr) (a := a) (b := b) (z := z) (hd := [32]) (mk := mk) (D := D) (X := List.replicate a 32 ++ ([32] ++ (mk ++ (List.replicate z 48 ++ D.map (dch l)))) ++ List.replicate b 32) (BR := BR) (LS := LS) (RS := RS) (BR2 := BR2) (a0 := a0) (by clear hlen hxl; simp; omega) (by clear hlen hxl; simp; simp at hs; omega) hsg hmk hD hw hn h0 hne hz hlen (by rw [← hxl]; clear hlen hxl; simp; omega) h3
    generalize hB : mk ++ (List.replicate z 48 ++ D.map (dch l)) = body at *
    have e1 : List.replicate a 32 ++ ([32] ++ body) ++ List.replicate b 32 = List.replicate (a + 1) 32 ++ body ++ List.replicate b 32 := by
      rw [List.replicate_succ', ← List.append_assoc (List.replicate a 32) [32] body]
    have e2 : List.replicate a 32 ++ ([32] ++ body) ++ List.replicate b 32 = List.replicate (a + 1) 32 ++ (body ++ List.replicate b 32) := by
      rw [e1, List.append_assoc]
    refine ⟨_, _, _, _, _, _, _, _, _, _, _, _, _, hcp ⟨body.toArray⟩ ⟨(body ++ List.replicate b 32).toArray⟩ ⟨(List.replicate a 32 ++ ([32] ++ body)).toArray⟩ ⟨([32] ++ body).toArray⟩ (a + 1) ?_ ?_ ?_ ?_ ?_ ?_ ?_ ?_ ?_⟩
    · rw [e1]; exact strip_b g32' (g32 _ hbody) hbn
    · rw [e2]
      refine strip_l g32' ?_
      intro d t e
      cases body with
      | nil => exact absurd rfl hbn
      | cons q w => rw [List.cons_append] at e; injection e with y1 y2; rw [← y1]; exact g32 _ hbody q (.head _)
    · refine strip_r g32' ?_
      intro d t e
      have : d ∈ body := by
        rw [← List.append_assoc, List.reverse_append] at e
        cases hr : body.reverse with
        | nil => exact absurd (by simpa using hr) hbn
        | cons q w => rw [hr, List.cons_append] at e; injection e with y1 y2; rw [← y1]; exact List.mem_reverse.mp (by rw [hr]; exact .head _)
      exact g32 _ hbody d this
    · clear hlen hxl; rw [len_mk, hbl]; simp at hs; omega
    · clear hlen hxl; rw [len_mk]; simp; omega
    · clear hlen hxl; rw [len_mk]; simp; omega
    · intro _; exact ⟨by rw [sp1]; exact mk_append [32] body, by omega⟩
    · intro h; rw [sp1] at h; exact absurd h (by decide)
    · rfl
  · have hh : ∀ c ∈ hd ++ (mk ++ (List.replicate z 48 ++ D.map (dch l))), c ≠ 32 := by
      intro c hc2
      rcases List.mem_append.mp hc2 with h | h
      · rcases hhd with rfl | rfl | rfl | rfl
        · cases h
        · rw [List.mem_singleton.mp h]; decide
        · rw [List.mem_singleton.mp h]; decide
        · exact absurd rfl hc
      · exact hbody c h
    have hcp := fun BR LS RS BR2 a0 => right_core (l := l) (lt := lt) (flags := flags) (n := n) (wd := wd) (pr := pr) (a := a) (b := b) (z := z) (hd := hd) (mk := mk) (D := D) (X := List.replicate a 32 ++ (hd ++ (mk ++ (List.replicate z 48 ++ D.map (dch l)))) ++ List.replicate b 32) (BR := BR) (LS := LS) (RS := RS) (BR2 := BR2) (a0 := a0) (by clear hlen hxl; simp; omega) (by clear hlen hxl; simp; omega) hsg hmk hD hw hn h0 hne hz hlen (by rw [← hxl]; clear hlen hxl; simp; omega) h3
    have hrn : hd ++ (mk ++ (List.replicate z 48 ++ D.map (dch l))) ≠ [] := fun e => hbn (List.append_eq_nil_iff.mp e).2
    have hrl : (hd ++ (mk ++ (List.replicate z 48 ++ D.map (dch l)))).length = hd.length + mk.length + z + D.length := by rw [List.length_append, hbl]; omega
    generalize hB : hd ++ (mk ++ (List.replicate z 48 ++ D.map (dch l))) = body at *
    have hne32 : ((⟨hd.toArray⟩ : Str) == Str.ofString " ") = false := by
      rw [sp1, beq_eq_false_iff_ne]
      intro e
      injection e with e
      exact hc (by simpa using congrArg Array.toList e)
    refine ⟨_, _, _, _, _, _, _, _, _, _, _, _, _, hcp ⟨body.toArray⟩ ⟨(body ++ List.replicate b 32).toArray⟩ ⟨(List.replicate a 32 ++ body).toArray⟩ ⟨body.toArray⟩ a ?_ ?_ ?_ ?_ ?_ ?_ ?_ ?_ ?_⟩
    · exact strip_b g32' (g32 _ hh) hrn
    · rw [List.append_assoc]
      refine strip_l g32' ?_
      intro d t e
      cases body with
      | nil => exact absurd rfl hrn
      | cons q w => rw [List.cons_append] at e; injection e with y1 y2; rw [← y1]; exact g32 _ hh q (.head _)
    · refine strip_r g32' ?_
      intro d t e
      have : d ∈ body := by
        rw [List.reverse_append] at e
        cases hr : body.reverse with
        | nil => exact absurd (by simpa using hr) hrn
        | cons q w => rw [hr, List.cons_append] at e; injection e with y1 y2; rw [← y1]; exact List.mem_reverse.mp (by rw [hr]; exact .head _)
      exact g32 _ hh d this
    · clear hlen hxl; rw [len_mk, hrl]; omega
    · clear hlen hxl; rw [len_mk]; simp <;> omega
    · clear hlen hxl; rw [len_mk]; simp <;> omega
    · intro h; rw [hne32] at h; cases h
    · intro _; exact ⟨rfl, rfl⟩
    · rfl
end Mine
end
section
set_option Elab.async false
namespace Mine
open PySem PySem.W PySem.Spec PySem.Builtin PySem.Builtin.Str PySem.Calls PyProof.Rows
def ci (cs : List Nat) : List Int := cs.map fun (c : Nat) => (c : Int)
theorem ci_app (a b : List Nat) : ci (a ++ b) = ci a ++ ci b := by unfold ci; rw [List.map_append]
theorem ci_rep (k c : Nat) : ci (List.replicate k c) = List.replicate k (c : Int) := by unfold ci; rw [List.map_replicate]
theorem ci_len (a : List Nat) : (ci a).length = a.length := by unfold ci; rw [List.length_map]
def hdN (bp bb : Bool) (n : Int) : List Nat := if n < 0 then [45] else if bp = true then [43] else if bb = true then [32] else []
def mkN (l : Ltr) (bm : Bool) (n : Int) : List Nat := if bm = true ∧ (l = .x ∨ l = .X) ∧ n ≠ 0 then [48, l.code] else []
theorem head_ci (bp bb : Bool) (n : Int) : ncHead bp bb n = ci (hdN bp bb n) := by
  unfold ncHead hdN; split; · rfl
  split; · rfl
  split <;> rfl
theorem hdN_cases (bp bb : Bool) (n : Int) : hdN bp bb n = [] ∨ hdN bp bb n = [45] ∨ hdN bp bb n = [43] ∨ hdN bp bb n = [32] := by
  unfold hdN; split; · simp
  split; · simp
  split <;> simp
theorem hdN_sg {flags : Str} {n : Int} : (⟨(hdN (has flags "+") (has flags " ") n).toArray⟩ : Str) = sgOf flags n := by
  unfold hdN sgOf; split; · decide +kernel
  split; · decide +kernel
  split <;> decide +kernel
theorem mkN_mk {flags lt : Str} {l : Ltr} {n : Int} (hlt : l.str = lt) : (⟨(mkN l (has flags "#") n).toArray⟩ : Str) = mkOf flags lt l n := by
  subst hlt
  unfold mkN mkOf; split
  · cases l <;> decide +kernel
  · decide +kernel
theorem h2_ci {l : Ltr} {bm bp bb : Bool} {n : Int} : ncH2 l bm n (ncHead bp bb n) = ci (hdN bp bb n ++ mkN l bm n) := by
  rw [head_ci]
  unfold ncH2 mkN; split
  · rw [ci_app]; rfl
  · rw [List.append_nil]
def zz1 (l : Ltr) (pr n : Int) : Nat := (pr - (digs l n.natAbs).length).toNat
def zz2 (l : Ltr) (bm : Bool) (pr n : Int) : Nat := zz1 l pr n + if bm = true ∧ l = .o ∧ zz1 l pr n = 0 ∧ n ≠ 0 then 1 else 0
def zz3 (l : Ltr) (bl bn bm : Bool) (wd pr n : Int) (k : Nat) : Nat := zz2 l bm pr n + if bn = true ∧ bl = false ∧ pr < 0 then (wd - k - (zz2 l bm pr n + (digs l n.natAbs).length : Nat)).toNat else 0
def fgN (l : Ltr) (n : Int) : List Nat := (digs l n.natAbs).reverse.map (dch l)
theorem fgN_len (l : Ltr) (n : Int) : (fgN l n).length = (digs l n.natAbs).length := by unfold fgN; simp
theorem figs_len' (l : Ltr) (n : Nat) : (figs l n).length = (digs l n).length := by unfold figs; simp
theorem f1_ci {l : Ltr} {pr n : Int} : ncF1 l pr n = ci (List.replicate (zz1 l pr n) 48 ++ fgN l n) := by
  unfold ncF1 zz1 fgN
  rw [ci_app, ci_rep, figs_cast, figs_len']; rfl
theorem digs_rev_ne (l : Ltr) (n : Nat) : (digs l n).reverse ≠ [] := by
  rw [digs]; simp
theorem f1_first {l : Ltr} {pr n : Int} : (ci (List.replicate (zz1 l pr n) 48 ++ fgN l n)).getD 0 0 ≠ 48 ↔ (zz1 l pr n = 0 ∧ n ≠ 0) := by
  cases hz : zz1 l pr n with
  | succ z => rw [List.replicate_succ, List.cons_append]; simp [ci]
  | zero =>
    rw [List.replicate_zero, List.nil_append]
    unfold fgN
    by_cases h : n = 0
    · subst h
      rw [show (0 : Int).natAbs = 0 from rfl, digs_zero, List.reverse_singleton, List.map_singleton, dch0]; simp [ci]
    · cases hR : (digs l n.natAbs).reverse with
      | nil => exact absurd hR (digs_rev_ne _ _)
      | cons d t =>
        have h1 := digs_last l n.natAbs (by omega) d t hR
        have h2 := digs_lt l n.natAbs d (List.mem_reverse.mp (by rw [hR]; exact .head _))
        have h3 := (dch_at h2).2.2.2
        rw [List.map_cons]
        simp only [ci, List.map_cons, List.getD_cons_zero]
        constructor
        · intro _; exact ⟨trivial, h⟩
        · intro _ q; exact h1 (h3.mp (by omega))
theorem f2_ci {l : Ltr} {bm : Bool} {pr n : Int} : ncF2 l bm (ncF1 l pr n) = ci (List.replicate (zz2 l bm pr n) 48 ++ fgN l n) := by
  rw [f1_ci]
  unfold ncF2 zz2
  by_cases h : bm = true ∧ l = .o ∧ zz1 l pr n = 0 ∧ n ≠ 0
  · rw [if_pos ⟨h.1, h.2.1, f1_first.mpr ⟨h.2.2.1, h.2.2.2⟩⟩, if_pos h, List.replicate_succ, List.cons_append]; rfl
  · rw [if_neg (fun q => h ⟨q.1, q.2.1, f1_first.mp q.2.2⟩), if_neg h]; rfl
theorem f3_ci {l : Ltr} {bl bn bm bp bb : Bool} {wd pr n : Int} : ncF3 bl bn wd pr (ncH2 l bm n (ncHead bp bb n)) (ncF2 l bm (ncF1 l pr n)) = ci (List.replicate (zz3 l bl bn bm wd pr n (hdN bp bb n ++ mkN l bm n).length) 48 ++ fgN l n) := by
  rw [f2_ci, h2_ci]
  unfold ncF3 zz3
  rw [ci_len, ci_len]
  split
  · rw [List.length_append (as := List.replicate _ _), List.length_replicate, fgN_len]
    rw [show (48 : Int) = ((48 : Nat) : Int) from rfl, ← ci_rep, ← ci_app, ← List.append_assoc, List.replicate_append_replicate, Nat.add_comm (zz2 l bm pr n) (digs l n.natAbs).length, Nat.add_comm (zz2 l bm pr n) (Int.toNat _)]
  · rfl
theorem toN (x : Int) : ((x.toNat : Nat) : Int) = if x > 0 then x else 0 := by split <;> omega
theorem zz2_len {l : Ltr} {b3 : Bool} {n pr : Int} {k z : Nat} (hk : 1 ≤ k) (hz : z = (pr - k).toNat) :
    ((z + (if b3 = true ∧ l = .o ∧ z = 0 ∧ n ≠ 0 then 1 else 0) : Nat) : Int) + k = max ((k : Int) + (if b3 = true ∧ l = .o ∧ n ≠ 0 then 1 else 0)) pr := by
  by_cases h : b3 = true ∧ l = .o ∧ n ≠ 0
  · rw [if_pos h]
    by_cases h0 : z = 0
    · rw [if_pos ⟨h.1, h.2.1, h0, h.2.2⟩]; omega
    · rw [if_neg (fun q => h0 q.2.2.1)]; omega
  · rw [if_neg h, if_neg (fun q => h ⟨q.1, q.2.1, q.2.2.2⟩)]; omega
theorem z3_len {l : Ltr} {flags : Str} {n wd pr : Int} {hl ml : Nat} (hdl0 : 1 ≤ (digs l n.natAbs).length) (_p0 : -1 ≤ pr) (_w0 : 0 ≤ wd) :
    ((zz3 l (has flags "-") (has flags "0") (has flags "#") wd pr n (hl + ml) : Nat) : Int) + ((digs l n.natAbs).length : Nat) = max (needB flags l n pr wd (digs l n.natAbs).length hl ml) ((digs l n.natAbs).length : Nat) := by
  have e2 := zz2_len (l := l) (b3 := has flags "#") (n := n) (pr := pr) hdl0 rfl
  unfold needB fillsOf zz3
  have hA : needA flags l n pr (digs l n.natAbs).length = ((zz2 l (has flags "#") pr n : Nat) : Int) + ((digs l n.natAbs).length : Nat) := e2.symm
  rw [hA]
  clear e2 hA
  generalize zz2 l (has flags "#") pr n = z
  generalize (digs l n.natAbs).length = k at *
  by_cases h : has flags "0" = true ∧ has flags "-" = false ∧ pr < 0
  · have hb : (has flags "0" && (!has flags "-" && decide (pr < 0))) = true := by rw [h.1, h.2.1, decide_eq_true h.2.2]; rfl
    rw [if_pos h, if_pos hb]; omega
  · have hb : ¬ (has flags "0" && (!has flags "-" && decide (pr < 0))) = true := by
      intro q
      rw [Bool.and_eq_true, Bool.and_eq_true, Bool.not_eq_true', decide_eq_true_iff] at q
      exact h q
    rw [if_neg h, if_neg hb]; omega
theorem codes_right {flags lt : Str} {l : Ltr} {n wd pr : Int} (hlt : l.str = lt) (w0 : 0 ≤ wd) (w1 : wd ≤ 100) (p0 : -1 ≤ pr) (p1 : pr ≤ 100) (hnn : n.natAbs < 10 ^ 31) :
    ∃ cN : List Nat, padGo (has flags "-") wd (ncH2 l (has flags "#") n (ncHead (has flags "+") (has flags " ") n) ++ ncF3 (has flags "-") (has flags "0") wd pr (ncH2 l (has flags "#") n (ncHead (has flags "+") (has flags " ") n)) (ncF2 l (has flags "#") (ncF1 l pr n))) = ci cN ∧ cN.length ≤ 290 ∧ (∀ c ∈ cN, c < 128) ∧
      RightEx l lt flags ⟨cN.toArray⟩ wd pr n := by
  rw [f3_ci, h2_ci, ← ci_app]
  have hdl : (digs l n.natAbs).length ≤ 35 := by rw [← figs_len']; exact figs_len hnn
  have hdl0 : 1 ≤ (digs l n.natAbs).length := by rw [digs]; simp
  have hhl : (hdN (has flags "+") (has flags " ") n).length ≤ 1 := by
    rcases hdN_cases (has flags "+") (has flags " ") n with h | h | h | h <;> rw [h] <;> decide
  have hml : (mkN l (has flags "#") n).length ≤ 2 := by unfold mkN; split <;> simp
  have hz3 : zz3 l (has flags "-") (has flags "0") (has flags "#") wd pr n (hdN (has flags "+") (has flags " ") n ++ mkN l (has flags "#") n).length = zz3 l (has flags "-") (has flags "0") (has flags "#") wd pr n ((hdN (has flags "+") (has flags " ") n).length + (mkN l (has flags "#") n).length) := by rw [List.length_append]
  rw [hz3]
  have hz3l : zz3 l (has flags "-") (has flags "0") (has flags "#") wd pr n ((hdN (has flags "+") (has flags " ") n).length + (mkN l (has flags "#") n).length) ≤ 201 := by
    unfold zz3 zz2 zz1
    split <;> split <;> omega
  have hzo : has flags "#" = true → l = .o → 0 < zz3 l (has flags "-") (has flags "0") (has flags "#") wd pr n ((hdN (has flags "+") (has flags " ") n).length + (mkN l (has flags "#") n).length) ∨ n = 0 := by
    intro h1 h2
    by_cases h : n = 0
    · exact .inr h
    · left
      unfold zz3 zz2
      by_cases hq : zz1 l pr n = 0
      · rw [if_pos ⟨h1, h2, hq, h⟩]; omega
      · omega
  have hlen : ((zz3 l (has flags "-") (has flags "0") (has flags "#") wd pr n ((hdN (has flags "+") (has flags " ") n).length + (mkN l (has flags "#") n).length) : Nat) : Int) + ((digs l n.natAbs).reverse.length : Nat) = max (needB flags l n pr wd (digs l n.natAbs).reverse.length (hdN (has flags "+") (has flags " ") n).length (mkN l (has flags "#") n).length) ((digs l n.natAbs).reverse.length : Nat) := by
    rw [List.length_reverse]
    exact z3_len hdl0 p0 w0
  generalize hzg : zz3 l (has flags "-") (has flags "0") (has flags "#") wd pr n ((hdN (has flags "+") (has flags " ") n).length + (mkN l (has flags "#") n).length) = z at *
  have hfl := fgN_len l n
  generalize hk : (wd - (ci (hdN (has flags "+") (has flags " ") n ++ mkN l (has flags "#") n ++ (List.replicate z 48 ++ fgN l n))).length).toNat = k
  have hk' : k = (wd - ((hdN (has flags "+") (has flags " ") n).length + (mkN l (has flags "#") n).length + (z + (digs l n.natAbs).length) : Nat)).toNat := by
    rw [← hk, ci_len]; simp only [List.length_append, List.length_replicate, hfl]
  have hmb : ∀ c ∈ mkN l (has flags "#") n, c ≠ 32 ∧ c < 128 := by
    unfold mkN; split
    · cases l <;> decide
    · intro c h; cases h
  have hhb : ∀ c ∈ hdN (has flags "+") (has flags " ") n, c < 128 := by
    rcases hdN_cases (has flags "+") (has flags " ") n with h | h | h | h <;> rw [h] <;> decide
  have hfb : ∀ c ∈ fgN l n, c < 128 := by
    unfold fgN
    intro c hc
    obtain ⟨d, hd, rfl⟩ := List.mem_map.mp hc
    exact (dch_at (digs_lt l _ d (List.mem_reverse.mp hd))).2.1
  have hR := fun (a b : Nat) => right_of (l := l) (lt := lt) (flags := flags) (n := n) (wd := wd) (pr := pr) (a := a) (b := b) (z := z) (hd := hdN (has flags "+") (has flags " ") n) (mk := mkN l (has flags "#") n) (D := (digs l n.natAbs).reverse) (hdN_cases _ _ _) (fun c hc => (hmb c hc).1)
  have hall : ∀ a b : Nat, ∀ c ∈ (List.replicate a 32 ++ (hdN (has flags "+") (has flags " ") n ++ (mkN l (has flags "#") n ++ (List.replicate z 48 ++ fgN l n))) ++ List.replicate b 32), c < 128 := by
    intro a b c hc
    simp only [List.mem_append] at hc
    rcases hc with (h | h | h | h | h) | h
    · rw [List.eq_of_mem_replicate h]; decide
    · exact hhb c h
    · exact (hmb c h).2
    · rw [List.eq_of_mem_replicate h]; decide
    · exact hfb c h
    · rw [List.eq_of_mem_replicate h]; decide
  have hll : ∀ a b : Nat, (List.replicate a 32 ++ (hdN (has flags "+") (has flags " ") n ++ (mkN l (has flags "#") n ++ (List.replicate z 48 ++ fgN l n))) ++ List.replicate b 32).length = a + (hdN (has flags "+") (has flags " ") n).length + (mkN l (has flags "#") n).length + z + (digs l n.natAbs).length + b := by
    intro a b
    simp only [List.length_append, List.length_replicate, hfl]; omega
  unfold padGo
  rw [hk]
  have c32 : ∀ k, List.replicate k (32 : Int) = ci (List.replicate k 32) := fun k => (ci_rep k 32).symm
  cases hbl : has flags "-" with
  | true =>
    rw [if_pos rfl, c32, ← ci_app]
    refine ⟨List.replicate 0 32 ++ (hdN (has flags "+") (has flags " ") n ++ (mkN l (has flags "#") n ++ (List.replicate z 48 ++ fgN l n))) ++ List.replicate k 32, by rw [List.replicate_zero, List.nil_append, List.append_assoc (hdN _ _ _)], by clear hlen; rw [hll]; omega, hall _ _, ?_⟩
    refine hR 0 k ?_ hdN_sg (mkN_mk hlt) (fun d hd => digs_lt l _ d (List.mem_reverse.mp hd)) (worth_digs _ _) (fun h => digs_last l _ (Int.natAbs_ne_zero.mpr h)) (fun h => by rw [h]; exact congrArg List.reverse (digs_zero l)) (digs_rev_ne _ _) hzo hlen ?_ ?_
    · clear hlen; rw [List.length_reverse]; omega
    · clear hlen; rw [List.length_reverse]; omega
    · rw [hbl]; rfl
  | false =>
    rw [if_neg (by decide), c32, ← ci_app]
    refine ⟨List.replicate k 32 ++ (hdN (has flags "+") (has flags " ") n ++ (mkN l (has flags "#") n ++ (List.replicate z 48 ++ fgN l n))) ++ List.replicate 0 32, by rw [List.replicate_zero, List.append_nil, List.append_assoc (hdN _ _ _)], by clear hlen; rw [hll]; omega, hall _ _, ?_⟩
    refine hR k 0 ?_ hdN_sg (mkN_mk hlt) (fun d hd => digs_lt l _ d (List.mem_reverse.mp hd)) (worth_digs _ _) (fun h => digs_last l _ (Int.natAbs_ne_zero.mpr h)) (fun h => by rw [h]; exact congrArg List.reverse (digs_zero l)) (digs_rev_ne _ _) hzo hlen ?_ ?_
    · clear hlen; rw [List.length_reverse]; omega
    · clear hlen; rw [List.length_reverse]; omega
    · rw [hbl]; rfl
end Mine
end
section
set_option Elab.async false
namespace Mine
open PySem PySem.W PySem.Calls PyProof.Rows
abbrev txC (f : Int) (fcs : List Nat) (wd pr : Int) (lt : Ltr) : List Nat := fieldC f ++ fcs ++ widthC wd ++ precC pr ++ [lt.code]
theorem rs_of {ns : List Int} {k f0 z0 z1 z2 wd z3 pr z4 c f : Int} {fl : Bool × Bool × Bool × Bool × Bool} {cc : Bool}
    (h1 : nfGo (ns.drop k.toNat) 0 k = some (f0, z0)) (hc : decide (k < z0 ∧ z0 < (ns.length : Int) ∧ ns.getD z0.toNat 0 = 36) = cc) (hf0 : ¬ (cc = true ∧ f0 = 0))
    (hz1 : (if cc = true then z0 + 1 else k) = z1) (h2 : tfGo (ns.drop z1.toNat) z1 false false false false false = (z2, fl)) (h3 : nfGo (ns.drop z2.toNat) 0 z2 = some (wd, z3))
    (h4 : (if z3 < (ns.length : Int) ∧ ns.getD z3.toNat 0 = 46 then nfGo (ns.drop (z3 + 1).toNat) 0 (z3 + 1) else some (-1, z3)) = some (pr, z4))
    (h5 : z4 < (ns.length : Int)) (h6 : ns.getD z4.toNat 0 = c) (hf : (if cc = true then f0 - 1 else -1) = f) : rsGo ns k = some (f, fl, wd, pr, c, z4 + 1) := by
  unfold rsGo
  rw [h1]
  dsimp only
  rw [hc, if_neg hf0, hz1, h2]
  dsimp only
  rw [h3]
  dsimp only
  rw [h4]
  dsimp only
  rw [if_pos h5, h6, hf]
theorem at_split {ns a r : List Int} {z : Int} (e : ns = a ++ r) (hz : z = a.length) : ns.drop z.toNat = r ∧ (r ≠ [] → z < (ns.length : Int)) ∧ ns.getD z.toNat 0 = r.headD 0 := by
  subst e
  have : z.toNat = a.length := by omega
  rw [this]
  refine ⟨List.drop_left, fun h => ?_, ?_⟩
  · have := List.length_pos_iff.mpr h
    rw [List.length_append]; omega
  · rw [List.getD_eq_getElem?_getD, List.getElem?_append_right (Nat.le_refl _), Nat.sub_self]
    cases r <;> rfl
def nodig (r : List Int) : Prop := ¬ (48 ≤ r.headD 0 ∧ r.headD 0 ≤ 57)
theorem nf_stop {r : List Int} {f z : Int} (h : nodig r) : nfGo r f z = some (f, z) := by
  cases r with
  | nil => rfl
  | cons c r => unfold nfGo; exact if_neg h
theorem nf_dig {r : List Int} {f z c : Int} (h : 48 ≤ c ∧ c ≤ 57) (h2 : 10 * f + c - 48 ≤ 65536) : nfGo (c :: r) f z = nfGo r (10 * f + c - 48) (z + 1) := by
  rw [nfGo, if_pos h, if_neg (by omega)]
theorem nf_width {wd z : Int} {r : List Int} (hwd : wd ∈ [(0 : Int), 0, 1, 5, 12, 30]) (h : nodig r) : nfGo (ci (widthC wd) ++ r) 0 z = some (wd, z + (widthC wd).length) := by
  simp only [List.mem_cons, List.not_mem_nil, or_false] at hwd
  rcases hwd with rfl | rfl | rfl | rfl | rfl | rfl
  · show nfGo r 0 z = _
    rw [nf_stop h]; exact congrArg (fun q => some (0, q)) (by show z = z + ((0 : Nat) : Int); omega)
  · show nfGo r 0 z = _
    rw [nf_stop h]; exact congrArg (fun q => some (0, q)) (by show z = z + ((0 : Nat) : Int); omega)
  · show nfGo (49 :: r) 0 z = _
    rw [nf_dig (by omega) (by omega), nf_stop h]; rfl
  · show nfGo (53 :: r) 0 z = _
    rw [nf_dig (by omega) (by omega), nf_stop h]; rfl
  · show nfGo (49 :: 50 :: r) 0 z = _
    rw [nf_dig (by omega) (by omega), nf_dig (by omega) (by omega), nf_stop h]; exact congrArg (fun q => some (12, q)) (by show z + 1 + 1 = z + ((2 : Nat) : Int); omega)
  · show nfGo (51 :: 48 :: r) 0 z = _
    rw [nf_dig (by omega) (by omega), nf_dig (by omega) (by omega), nf_stop h]; exact congrArg (fun q => some (30, q)) (by show z + 1 + 1 = z + ((2 : Nat) : Int); omega)
def isfl (c : Int) : Prop := c = 45 ∨ c = 43 ∨ c = 32 ∨ c = 48 ∨ c = 35
theorem tf_run {r : List Int} (hr : ¬ isfl (r.headD 0)) : ∀ (cs : List Nat) (z : Int) (l p b n m : Bool), (∀ c ∈ cs, isfl (c : Int)) →
    tfGo (ci cs ++ r) z l p b n m = (z + cs.length, l || decide (45 ∈ cs), p || decide (43 ∈ cs), b || decide (32 ∈ cs), n || decide (48 ∈ cs), m || decide (35 ∈ cs))
  | [], z, l, p, b, n, m, _ => by
    show tfGo r z l p b n m = _
    have e : tfGo r z l p b n m = (z, l, p, b, n, m) := by
      cases r with
      | nil => rfl
      | cons c r => unfold tfGo; exact if_neg hr
    rw [e]; simp
  | c :: cs, z, l, p, b, n, m, h => by
    show tfGo ((c : Int) :: (ci cs ++ r)) z l p b n m = _
    unfold tfGo
    rw [if_pos (show (c : Int) = 45 ∨ (c : Int) = 43 ∨ (c : Int) = 32 ∨ (c : Int) = 48 ∨ (c : Int) = 35 from h c (.head _)), tf_run hr cs _ _ _ _ _ _ fun q hq => h q (.tail _ hq)]
    have e : ∀ k : Nat, (((c : Nat) : Int) == ((k : Nat) : Int)) = decide (k = c) := fun k => by
      rw [Bool.eq_iff_iff, beq_iff_eq, decide_eq_true_iff]; omega
    have e45 := e 45; have e43 := e 43; have e32 := e 32; have e48 := e 48; have e35 := e 35
    rw [show (45 : Int) = ((45 : Nat) : Int) from rfl, show (43 : Int) = ((43 : Nat) : Int) from rfl, show (32 : Int) = ((32 : Nat) : Int) from rfl, show (48 : Int) = ((48 : Nat) : Int) from rfl, show (35 : Int) = ((35 : Nat) : Int) from rfl, e45, e43, e32, e48, e35]
    simp only [List.mem_cons, Bool.decide_or, Bool.or_assoc, List.length_cons]
    refine congrArg (fun q => (q, _)) ?_
    omega
theorem nf_flags {r : List Int} {wd : Int} {n : Nat} (hw : ∀ z, nfGo r 0 z = some (wd, z + n)) (hn : n ≤ r.length) (h36 : (r.drop n).headD 0 ≠ 36) : ∀ (cs : List Nat) (z : Int), (∀ c ∈ cs, isfl (c : Int)) →
    ∃ g z' p q, nfGo (ci cs ++ r) 0 z = some (g, z') ∧ ci cs ++ r = p ++ q ∧ z' = z + p.length ∧ q.headD 0 ≠ 36
  | [], z, _ => ⟨wd, z + n, r.take n, r.drop n, hw z, (List.take_append_drop n r).symm, by rw [List.length_take_of_le hn], h36⟩
  | c :: cs, z, h => by
    have hc := h c (.head _)
    by_cases h48 : (c : Int) = 48
    · obtain ⟨g, z', p, q, e1, e2, e3, e4⟩ := nf_flags hw hn h36 cs (z + 1) fun q hq => h q (.tail _ hq)
      refine ⟨g, z', (c : Int) :: p, q, ?_, ?_, ?_, e4⟩
      · show nfGo ((c : Int) :: (ci cs ++ r)) 0 z = _
        rw [nf_dig (by omega) (by omega), ← e1, h48]; rfl
      · show (c : Int) :: (ci cs ++ r) = _
        rw [e2]; rfl
      · rw [e3, List.length_cons]; omega
    · refine ⟨0, z, [], (c : Int) :: (ci cs ++ r), ?_, rfl, by simp, ?_⟩
      · show nfGo ((c : Int) :: (ci cs ++ r)) 0 z = _
        refine nf_stop ?_
        unfold nodig
        simp only [List.headD_cons]
        rcases hc with q | q | q | q | q <;> omega
      · simp only [List.headD_cons]
        rcases hc with q | q | q | q | q <;> omega
theorem prec_head {pr : Int} {lt : Ltr} (hpr : pr ∈ [(-1 : Int), -1, -1, 0, 3, 9]) : nodig (ci (precC pr) ++ (lt.code : Int) :: [57, 122]) ∧ ¬ isfl ((ci (precC pr) ++ (lt.code : Int) :: [57, 122]).headD 0) ∧ (ci (precC pr) ++ (lt.code : Int) :: [57, 122]).headD 0 ≠ 36 ∧ ci (precC pr) ++ (lt.code : Int) :: [57, 122] ≠ [] := by
  simp only [List.mem_cons, List.not_mem_nil, or_false] at hpr
  unfold nodig isfl
  rcases hpr with rfl | rfl | rfl | rfl | rfl | rfl <;> cases lt <;> decide +kernel
theorem width_head {wd : Int} {r : List Int} (hwd : wd ∈ [(0 : Int), 0, 1, 5, 12, 30]) (h : ¬ isfl (r.headD 0)) : ¬ isfl ((ci (widthC wd) ++ r).headD 0) := by
  simp only [List.mem_cons, List.not_mem_nil, or_false] at hwd
  rcases hwd with rfl | rfl | rfl | rfl | rfl | rfl
  · exact h
  · exact h
  all_goals (unfold isfl; show ¬ (_ = (45 : Int) ∨ _); simp only [ci, widthC]; simp)
theorem fl_of {fcs : List Nat} (hfc : ∀ c ∈ fcs, c ∈ (Str.ofString "-+ 0#").cps.toList) : ∀ c ∈ fcs, isfl (c : Int) := by
  intro c hc
  have := hfc c hc
  rw [show (Str.ofString "-+ 0#").cps.toList = [45, 43, 32, 48, 35] by decide +kernel] at this
  simp only [List.mem_cons, List.not_mem_nil, or_false] at this
  unfold isfl
  rcases this with rfl | rfl | rfl | rfl | rfl <;> decide
theorem rs_plain {hc fcs : List Nat} {f wd pr : Int} {lt : Ltr} (hhc : hc ∈ [[], [97], [97, 98]]) (hf : -1 ≤ f ∧ f ≤ 2) (hfl : fcs.length ≤ 4) (hfc : ∀ c ∈ fcs, c ∈ (Str.ofString "-+ 0#").cps.toList) (hwd : wd ∈ [0, 0, 1, 5, 12, 30]) (hpr : pr ∈ [-1, -1, -1, 0, 3, 9]) :
    rsGo ((hc ++ txC f fcs wd pr lt ++ [57, 122]).map fun (c : Nat) => (c : Int)) hc.length = some (f, (has ⟨fcs.toArray⟩ "-", has ⟨fcs.toArray⟩ "+", has ⟨fcs.toArray⟩ " ", has ⟨fcs.toArray⟩ "0", has ⟨fcs.toArray⟩ "#"), wd, pr, (lt.code : Int), (hc.length : Int) + (txC f fcs wd pr lt).length) := by
  have hfl2 := fl_of hfc
  obtain ⟨p1, p2, p3, p4⟩ := prec_head (lt := lt) hpr
  have hns : (hc ++ txC f fcs wd pr lt ++ [57, 122]).map (fun (c : Nat) => (c : Int)) = ci hc ++ (ci (fieldC f) ++ (ci fcs ++ (ci (widthC wd) ++ (ci (precC pr) ++ (lt.code : Int) :: [57, 122])))) := by
    unfold txC ci
    simp only [List.map_append, List.append_assoc]
    rfl
  generalize hNN : (hc ++ txC f fcs wd pr lt ++ [57, 122]).map (fun (c : Nat) => (c : Int)) = ns at *
  rw [has_mem (c := 45) (by decide +kernel), has_mem (c := 43) (by decide +kernel), has_mem (c := 32) (by decide +kernel), has_mem (c := 48) (by decide +kernel), has_mem (c := 35) (by decide +kernel)]
  have htl : ((hc.length : Nat) : Int) + ((txC f fcs wd pr lt).length : Nat) = ((hc.length : Int) + (fieldC f).length + fcs.length + (widthC wd).length + (precC pr).length) + 1 := by
    unfold txC; simp only [List.length_append, List.length_singleton]; omega
  rw [htl]
  have hR : ∀ z, nfGo (ci (widthC wd) ++ (ci (precC pr) ++ (lt.code : Int) :: [57, 122])) 0 z = some (wd, z + (widthC wd).length) := fun z => nf_width hwd p1
  have hfield : ∃ f0 z0 cc, nfGo (ns.drop (hc.length : Int).toNat) 0 hc.length = some (f0, z0) ∧ decide ((hc.length : Int) < z0 ∧ z0 < (ns.length : Int) ∧ ns.getD z0.toNat 0 = 36) = cc ∧ ¬ (cc = true ∧ f0 = 0) ∧ (if cc = true then z0 + 1 else (hc.length : Int)) = (hc.length : Int) + (fieldC f).length ∧ (if cc = true then f0 - 1 else -1) = f := by
    have A0 := at_split hns (z := (hc.length : Int)) (by rw [ci_len])
    rw [A0.1]
    by_cases hf1 : f = -1
    · subst hf1
      show ∃ f0 z0 cc, nfGo (ci fcs ++ (ci (widthC wd) ++ (ci (precC pr) ++ (lt.code : Int) :: [57, 122]))) 0 hc.length = some (f0, z0) ∧ _
      obtain ⟨g, z', p, q, e1, e2, e3, e4⟩ := nf_flags hR (by rw [List.length_append, ci_len]; omega) (by rw [List.drop_left' (ci_len _)]; exact p3) fcs hc.length hfl2
      refine ⟨g, z', false, e1, ?_, by simp, by simp [fieldC], by simp⟩
      have A1 := at_split (ns := ns) (a := ci hc ++ p) (r := q) (z := z') (by rw [hns, List.append_assoc, ← e2]; rfl) (by rw [e3, List.length_append, ci_len]; omega)
      rw [A1.2.2, decide_eq_false_iff_not]
      exact fun h => e4 h.2.2
    · have hfc3 : fieldC f = [(49 + f).toNat, 36] := by
        have : f = 0 ∨ f = 1 ∨ f = 2 := by omega
        rcases this with rfl | rfl | rfl <;> rfl
      have e49 : (((49 + f).toNat : Nat) : Int) = 49 + f := by omega
      rw [hfc3] at hns ⊢
      refine ⟨f + 1, hc.length + 1, true, ?_, ?_, ?_, ?_, ?_⟩
      · show nfGo ((((49 + f).toNat : Nat) : Int) :: 36 :: _) 0 _ = _
        rw [e49, nf_dig (by omega) (by omega), nf_stop (by unfold nodig; simp)]
        exact congrArg (fun q => some (q, _)) (by omega)
      · have A1 := at_split (ns := ns) (a := ci hc ++ [49 + f]) (r := 36 :: (ci fcs ++ (ci (widthC wd) ++ (ci (precC pr) ++ (lt.code : Int) :: [57, 122])))) (z := hc.length + 1) (by rw [hns, ← e49, List.append_assoc]; rfl) (by rw [List.length_append, ci_len]; rfl)
        rw [A1.2.2, decide_eq_true_iff]
        exact ⟨by omega, A1.2.1 (by simp), rfl⟩
      · simp; omega
      · simp; omega
      · simp
  obtain ⟨f0, z0, cc, h1, h2, h3, h4, h5⟩ := hfield
  have A1 := at_split (ns := ns) (a := ci hc ++ ci (fieldC f)) (z := (hc.length : Int) + (fieldC f).length) (by rw [hns, List.append_assoc]) (by rw [List.length_append, ci_len, ci_len]; rfl)
  have A2 := at_split (ns := ns) (a := ci hc ++ ci (fieldC f) ++ ci fcs) (z := (hc.length : Int) + (fieldC f).length + fcs.length) (by rw [hns, List.append_assoc, List.append_assoc]) (by rw [List.length_append, List.length_append, ci_len, ci_len, ci_len]; rfl)
  have A3 := at_split (ns := ns) (a := ci hc ++ ci (fieldC f) ++ ci fcs ++ ci (widthC wd)) (r := ci (precC pr) ++ (lt.code : Int) :: [57, 122]) (z := (hc.length : Int) + (fieldC f).length + fcs.length + (widthC wd).length) (by rw [hns]; simp only [List.append_assoc]) (by simp only [List.length_append, ci_len]; omega)
  have A4 := at_split (ns := ns) (a := ci hc ++ ci (fieldC f) ++ ci fcs ++ ci (widthC wd) ++ ci (precC pr)) (r := (lt.code : Int) :: [57, 122]) (z := (hc.length : Int) + (fieldC f).length + fcs.length + (widthC wd).length + (precC pr).length) (by rw [hns]; simp only [List.append_assoc]) (by simp only [List.length_append, ci_len]; omega)
  refine rs_of (z2 := (hc.length : Int) + (fieldC f).length + fcs.length) (z3 := (hc.length : Int) + (fieldC f).length + fcs.length + (widthC wd).length) (z4 := (hc.length : Int) + (fieldC f).length + fcs.length + (widthC wd).length + (precC pr).length) h1 h2 h3 h4 (by rw [A1.1]; exact (tf_run (width_head hwd p2) fcs _ _ _ _ _ _ hfl2).trans (by simp only [Bool.false_or])) (by rw [A2.1]; exact hR _) ?_ (A4.2.1 (by simp)) A4.2.2 h5
  rw [A3.2.2]
  simp only [List.mem_cons, List.not_mem_nil, or_false] at hpr
  by_cases hm : pr = -1
  · subst hm
    rw [if_neg (by intro h; have h := h.2; revert h; cases lt <;> decide)]
    exact congrArg (fun q => some (-1, q)) (by show _ = _ + ((0 : Nat) : Int); omega)
  · have hd : ∃ d : Nat, precC pr = [46, d] ∧ (d : Int) = 48 + pr ∧ d ≤ 57 ∧ 48 ≤ d := by
      rcases hpr with rfl | rfl | rfl | rfl | rfl | rfl
      · exact absurd rfl hm
      · exact absurd rfl hm
      · exact absurd rfl hm
      · exact ⟨48, rfl, by omega, by omega, by omega⟩
      · exact ⟨51, rfl, by omega, by omega, by omega⟩
      · exact ⟨57, rfl, by omega, by omega, by omega⟩
    obtain ⟨d, hd1, hd2, hd3, hd4⟩ := hd
    rw [hd1] at hns A3 ⊢
    rw [if_pos ⟨A3.2.1 (by simp), rfl⟩]
    have A5 := at_split (ns := ns) (a := ci hc ++ ci (fieldC f) ++ ci fcs ++ ci (widthC wd) ++ [46]) (r := (d : Int) :: (lt.code : Int) :: [57, 122]) (z := (hc.length : Int) + (fieldC f).length + fcs.length + (widthC wd).length + 1) (by rw [hns]; simp only [List.append_assoc]; rfl) (by simp only [List.length_append, ci_len, List.length_singleton]; omega)
    rw [A5.1, nf_dig (by omega) (by omega), nf_stop (by unfold nodig; cases lt <;> decide)]
    have e1 : 10 * 0 + (d : Int) - 48 = pr := by omega
    rw [e1]
    exact congrArg (fun q => some (pr, q)) (by show _ = _ + ((2 : Nat) : Int); omega)
theorem cat_cps (a b : List Nat) : (((⟨a.toArray⟩ : Str) ++ ⟨b.toArray⟩) ++ Str.ofString "9z").cps.toList = a ++ b ++ [57, 122] := by
  show ((a.toArray ++ b.toArray) ++ (Str.ofString "9z").cps).toList = _
  rw [Array.toList_append, Array.toList_append, show (Str.ofString "9z").cps.toList = [57, 122] by decide +kernel]
theorem txC_len {fcs : List Nat} {f wd pr : Int} {lt : Ltr} (hfl : fcs.length ≤ 4) : (txC f fcs wd pr lt).length ≤ 20 := by
  have h1 : (fieldC f).length ≤ 2 := by unfold fieldC; split; · decide
                                        split; · decide
                                        split <;> decide
  have h2 : (widthC wd).length ≤ 2 := by unfold widthC; split; · decide
                                         split; · decide
                                         split; · decide
                                         split <;> decide
  have h3 : (precC pr).length ≤ 2 := by unfold precC; split; · decide
                                        split; · decide
                                        split <;> decide
  simp only [txC, List.length_append, List.length_singleton]
  omega
end Mine
end
section
set_option Elab.async false
namespace Mine
open PySem PySem.W PySem.Spec PySem.Calls PyProof.Rows
theorem ltr_code (lt : Ltr) : 32 ≤ (lt.code : Int) ∧ (lt.code : Int) < 127 := by cases lt <;> decide
theorem strOk1 (lt : Ltr) : PyData.strOk ⟨#[lt.code]⟩ = true := by cases lt <;> decide +kernel
theorem shaped4 {f wd pr : Int} {lt : Ltr} : SeqAt.shaped (.list [.int f, .int wd, .int pr, .str ⟨#[lt.code]⟩]) = true := by
  unfold SeqAt.shaped
  rw [Bool.and_eq_true]
  refine ⟨?_, ?_⟩
  · simp only [PyData.canLay0, PyData.canLayAll0]; rw [strOk1]; rfl
  · simp [PyData.depth, PyData.depthAll]
theorem shaped4' {f wd pr : Int} {lt : Ltr} : SeqAt.shaped (.list [.int f, .int wd, .int pr, .str lt.str]) = true := by
  rw [lt.str_code]; exact shaped4
theorem shaped5 {a b c d e : Bool} : SeqAt.shaped (.list [.bool a, .bool b, .bool c, .bool d, .bool e]) = true := by
  unfold SeqAt.shaped
  rw [Bool.and_eq_true]
  refine ⟨?_, ?_⟩
  · simp only [PyData.canLay0, PyData.canLayAll0]; rfl
  · simp [PyData.depth, PyData.depthAll]
theorem eqv4 {f wd pr : Int} {lt : Ltr} : PyData.eqv (.list [.int f, .int wd, .int pr, .str ⟨#[lt.code]⟩]) (.list [.int f, .int wd, .int pr, .str lt.str]) = true := by
  rw [lt.str_code]; exact PySem.SeqAt.eqv_refl _ (SeqAt.canLay_of_shaped shaped4)
theorem eqv5 {a b c d e : Bool} : PyData.eqv (.list [.bool a, .bool b, .bool c, .bool d, .bool e]) (.list [.bool a, .bool b, .bool c, .bool d, .bool e]) = true := PySem.SeqAt.eqv_refl _ (SeqAt.canLay_of_shaped shaped5)
end Mine
namespace Mine
open PySem PySem.W PySem.Spec PySem.Calls PyProof.Rows
def hasC (x : Str) (c : Nat) : Bool := !(Builtin.Str.occurrences x ⟨#[c]⟩ 0 x.length 1).isEmpty
theorem hasC5 (x : Str) : (Str.ofString "-+ 0#").cps.toList.map (fun c => Value.bool (hasC x c)) = [.bool (has x "-"), .bool (has x "+"), .bool (has x " "), .bool (has x "0"), .bool (has x "#")] := by
  rw [show (Str.ofString "-+ 0#").cps.toList = [45, 43, 32, 48, 35] by decide +kernel]
  unfold has hasC
  rw [show Str.ofString "-" = ⟨#[45]⟩ by decide +kernel, show Str.ofString "+" = ⟨#[43]⟩ by decide +kernel, show Str.ofString " " = ⟨#[32]⟩ by decide +kernel, show Str.ofString "0" = ⟨#[48]⟩ by decide +kernel, show Str.ofString "#" = ⟨#[35]⟩ by decide +kernel]
  rfl
theorem pow_ks {e : Int} (h : e ∈ [(1 : Int), 2, 9, 17, 30]) : 0 ≤ e ∧ e ≤ 30 := by
  simp only [List.mem_cons, List.not_mem_nil, or_false] at h; omega
theorem ten_pow {e : Int} (h0 : 0 ≤ e) (h1 : e ≤ 30) : 0 < (10 : Int) ^ e.toNat ∧ (10 : Int) ^ e.toNat ≤ 10 ^ 30 := by
  refine ⟨Int.pow_pos (by decide), ?_⟩
  have : (10 : Nat) ^ e.toNat ≤ 10 ^ 30 := Nat.pow_le_pow_right (by decide) (by omega)
  exact_mod_cast this
end Mine
namespace Mine
open PySem PySem.W PySem.Spec PySem.Calls PyProof.Rows
theorem num_small {a b P : Int} (a0 : 0 ≤ a) (a1 : a < P) (hP : P ≤ 10 ^ 30) (b0 : 0 ≤ b) (b1 : b < 2) : (a * (1 - 2 * b)).natAbs < 10 ^ 31 := by
  have : b = 0 ∨ b = 1 := by omega
  have e : (10 : Int) ^ 30 = 1000000000000000000000000000000 := by decide
  rcases this with rfl | rfl
  · rw [show (1 : Int) - 2 * 0 = 1 by decide, Int.mul_one]; omega
  · rw [show (1 : Int) - 2 * 1 = -1 by decide]; omega
theorem ci_at {cN : List Nat} {i : Nat} {n : Int} (h : (ci cN)[i]? = some n) : ∃ c : Nat, cN[i]? = some c ∧ n = (c : Int) := by
  unfold ci at h
  rw [List.getElem?_map] at h
  cases hc : cN[i]? with
  | none => rw [hc] at h; cases h
  | some c => rw [hc] at h; exact ⟨c, rfl, by simpa using h.symm⟩
theorem take_snocL {x : List Nat} {i c : Nat} (h : x[i]? = some c) : x.take (i + 1) = x.take i ++ [c] := by
  rw [List.take_add_one, h]; rfl
end Mine
end
section
set_option Elab.async false
namespace Mine
open PySem PySem.W PySem.Calls PyProof.Rows
theorem off_P11 : True := by
  w_top off
  trivial
def TupSrc (prog : Program) (w : World) (A : Around) (h₀ : Heap) (L : Addr) (m : Str → Option Value) (env : Env) (elt : Expr) (x : Str) (scope : Scope) (cl : List (Str × Addr)) (Fin : Shared → List Value → List (Addr × Obj) → Prop) (xv : Value) (s₁ : Shared) : Prop :=
  ∃ ax its k news, xv = .ref ax ∧ A.handled = none ∧ Fr h₀ L s₁.heap m ∧ News h₀ L s₁.heap news ∧ (ax, ({ cls := .type "tuple", data := .seq its k } : Obj)) ∈ news ∧ its.size ≤ sizeLine ∧
    ∀ g, LCg.CompRest prog w A h₀ L m env elt x scope cl { s₁ with heap := g } (fun nw => (ax, ({ cls := .type "tuple", data := .seq its k } : Obj)) ∈ nw) (fun i v => its[i]? = some v) (Fin { s₁ with heap := g }) its.size 0 [] news
theorem TupSrc.intro {prog : Program} {w : World} {A : Around} {h₀ : Heap} {L : Addr} {m : Str → Option Value} {env : Env} {elt : Expr} {x : Str} {scope : Scope} {cl : List (Str × Addr)} {Fin : Shared → List Value → List (Addr × Obj) → Prop} {s₁ : Shared} {ax : Addr} {its : Array Value} {k : Nat} {news : List (Addr × Obj)}
    (hh : A.handled = none) (F : Fr h₀ L s₁.heap m) (N : News h₀ L s₁.heap news) (hm : (ax, ({ cls := .type "tuple", data := .seq its k } : Obj)) ∈ news) (hsz : its.size ≤ sizeLine)
    (h : ∀ g, LCg.CompRest prog w A h₀ L m env elt x scope cl { s₁ with heap := g } (fun nw => (ax, ({ cls := .type "tuple", data := .seq its k } : Obj)) ∈ nw) (fun i v => its[i]? = some v) (Fin { s₁ with heap := g }) its.size 0 [] news) :
    TupSrc prog w A h₀ L m env elt x scope cl Fin (.ref ax) s₁ := ⟨ax, its, k, news, rfl, hh, F, N, hm, hsz, h⟩
theorem tup_st {h₀ : Heap} {L ax I : Addr} {its : Array Value} {k : Nat} : ∀ i (h h' : Heap) (o : Obj) (nw : List (Addr × Obj)), (h.IsTupleIter I ax i ∧ h.IsTuple ax its) → h.get? I = some o → h'.get? I = some o → (∀ b o, h₀.get? b = some o → h'.get? b = some o) → News h₀ L h' nw → (ax, ({ cls := .type "tuple", data := .seq its k } : Obj)) ∈ nw → (h'.IsTupleIter I ax i ∧ h'.IsTuple ax its) :=
  fun i h h' o nw st e e' _ N S => ⟨by obtain ⟨o', q, r⟩ := st.1; rw [e] at q; cases q; exact ⟨o, e', r⟩, ⟨_, (N _ S).1, rfl, _, rfl⟩⟩
theorem comp_tupA {prog : Program} {w : World} {A : Around} {E : Value → Shared → Prop} {s : Shared} {h₀ : Heap} {L : Addr} {m : Str → Option Value} {env : Env} {elt iter : Expr} {x y : Str} {px py : Pos} {scope : Scope} {cl : List (Str × Addr)} {pos spos : Pos} {Q : Flow → Shared → Prop} (F₀ : Fr h₀ L s.heap m) (hLe : env.locals = L)
    (hsw : swapsWith (.ListComp elt [⟨.Name x px, iter, [], 0⟩] scope pos) (some (.Name y py)) spos.line env = pure true)
    (hclos : closureFor scope env = pure cl) (hcell : ∀ z ∈ scope.names, z.2 ≠ .cell) (hkind : scope.kind = .function)
    (hnames : ∀ z ∈ scope.names, z.2 = .local → scope.names.lookup z.1 = some .local) (hx : scope.names.lookup x = some .local)
    (hy : env.kindOf y = some .local) (hp : (env.scope.kind == .class || (env.scope.kind == .module && env.locals != env.globals)) = false)
    (h : wpAny (model prog w) A (eval iter env) (TupSrc prog w A h₀ L m env elt x scope cl (fun s₂ => LCg.FinA h₀ L m s₂ y Q)) E s)
    (hs : ∀ x, foldedSetIterable iter env x = pure x) :
    wpAny (model prog w) A (exec (.Assign [.Name y py] (.ListComp elt [⟨.Name x px, iter, [], 0⟩] scope pos) spos) env) Q E s := by
  subst hLe
  rw [exec_Assign_Name_used _ _ _ _ hsw]
  refine wpAny_bind (wpAny_standAt (wpAny_bind ?_))
  show wpAny _ A (do let _ ← comprehension (.ListComp elt [⟨.Name x px, iter, [], 0⟩] scope pos) scope env _ (newList []) false (eval iter env) (some (assign (.Name y py) env))) _ _ s
  refine wpAny_bind (wpAny_mono (wpAny_comprehension_free (use := some (assign (.Name y py) env)) (Q := fun _ s' => Q .next s') rfl hs hclos hkind hnames
    (wpAny_mono h (fun xv s₁ h₁ => ?_) fun _ _ e => e)) (fun _ s' hq => wpAny_pure (wpAny_pure hq)) fun _ _ e => e)
  obtain ⟨ax, its, k, news, rfl, hh, F, N, hm, hsz, R⟩ := h₁
  have hl : s₁.heap.IsTuple ax its := ⟨_, (N _ hm).1, rfl, _, rfl⟩
  have hlt : ax < s₁.heap.objs.size := Heap.lt_size (N _ hm).1
  refine wpAny_pyIter_tuple hl ?_
  have up : ∀ b o, s₁.heap.get? b = some o → (s₁.heap.push { cls := .type "tuple_iterator", data := .fields #[.ref ax, .int 0 0] }).get? b = some o := fun b o e => Heap.get?_push_of_some _ e
  refine LCg.block_U (Walks.tuple hh s₁.heap.objs.size ax (Nat.ne_of_lt hlt) its) hsz (fun i h st => by obtain ⟨o, e, _⟩ := st.1; exact ⟨o, e⟩) tup_st hcell hkind hx ⟨⟨_, Heap.get?_push_size _ rfl, rfl, rfl⟩, hl.push _⟩ (fun b hb => ?_)
    (F.keeps up) (N.grown up) (Nat.ne_of_lt F.ns.lt) (next_is_new F) (fun p hp => Nat.ne_of_lt (Heap.lt_size (N p hp).1)) hm (R _) ?_
  · show b < (s₁.heap.push _).objs.size
    rw [Heap.size_push]
    rcases List.mem_cons.mp hb with rfl | hb
    · exact Nat.lt_succ_self _
    · rw [List.mem_singleton.mp hb]; exact Nat.lt_succ_of_lt hlt
  · intro D C h' tk m' ys news' F' N' o1 hn hC₀ hD₀ hCL hDL hCD offC fin
    show wpAny _ A (assign (.Name y py) env (.ref D)) _ _ _
    refine wpAny_assign_Name (wpAny_storeName_local hy F'.ns (fun h₂ hn₂ hs₂ => ?_) hp)
    have hL₀ : h₀.get? env.locals = none := Heap.get?_none_of_le F'.above
    have F₂ : Fr h₀ env.locals h₂ (fun z => if z = y then some (.ref D) else m z) := ⟨hn₂, fun b o e => hs₂.extBut b o (fun q => by rw [q, hL₀] at e; cases e) (F'.keep b o e), F'.above⟩
    refine ⟨m', hn.sameBut hs₂ hCL, fun h'' hs'' => fin D h'' _ (F₂.change hs'' hCL hC₀) (fun p hp => ?_) o1⟩
    have z : h₂.get? p.1 = some p.2 := hs₂.extBut _ _ (N' p hp).2.1 (N' p hp).1
    refine ⟨hs''.extBut _ _ ?_ z, (N' p hp).2⟩
    rcases List.mem_cons.mp hp with rfl | hp
    · exact Ne.symm hCD
    · exact offC p hp
end Mine
end
section
set_option Elab.async false
namespace Mine
open PySem PySem.W PySem.Calls PyProof.Rows
theorem off_P12 : True := by
  w_top off
  trivial
local macro_rules | `(tactic| walk_at "none") => `(tactic| skip)
theorem mul9_cps : ∀ n : Nat, (List.replicate n (#[57] : Array Nat)).foldl (· ++ ·) #[] = (List.replicate n 57).toArray := by
  have h : ∀ (n : Nat) (acc : Array Nat), (List.replicate n (#[57] : Array Nat)).foldl (· ++ ·) acc = acc ++ (List.replicate n 57).toArray := by
    intro n
    induction n with
    | zero => intro acc; simp
    | succ n ih => intro acc; rw [List.replicate_succ, List.foldl_cons, ih, List.replicate_succ]; apply Array.toList_inj.mp; simp [-List.toArray_replicate, -Array.toList_push]
  intro n
  rw [h]; simp
theorem mul9_eq {n : Int} (h1 : 1 < n) : Txt.mul (Str.ofString "9") n = ⟨(List.replicate n.toNat 57).toArray⟩ := by
  unfold Txt.mul
  rw [if_neg (by omega), if_neg ?_]
  · rw [show (Str.ofString "9").cps = #[57] by decide +kernel, mul9_cps]
  · rw [show (Str.ofString "9").length = 1 by decide +kernel]
    simp; omega
theorem mul9 {prog : Program} {w : World} {A : Around} {E : Value → Shared → Prop} {s : Shared} {t u : Tok} {n : Int} {Q : Value → Shared → Prop} (h0 : 1 < n) (h1 : n ≤ 10000)
    (h : ∀ (x : Str), x.cps.toList = List.replicate n.toNat 57 → (x.length : Int) = n → ∀ t' k, Q (.str x t') { s with toks := k }) : wpAny (model prog w) A (binaryOp .Mult (.str (Str.ofString "9") t) (.int n u)) Q E s := by
  refine SB.mul (mulOk_of 1 10000 (by decide +kernel) (by omega) (by omega) (by decide) (by decide)) fun t' k => ?_
  rw [mul9_eq h0]
  exact h _ rfl (by rw [len_mk, List.length_replicate]; omega) t' k
theorem len1d : (Str.ofString "d").length = 1 := by decide +kernel
end Mine
end
section
set_option Elab.async false
namespace Mine
open PySem PySem.W PySem.Calls PyProof.Rows
def Bad (tx : Str) : Prop := tx.cps.size ≤ 6000 ∧ rsGo (tx.cps.toList.map fun (c : Nat) => (c : Int)) 0 = none
theorem bad0 : Bad (Str.ofString "") := ⟨by decide +kernel, by decide +kernel⟩
theorem bad1 : Bad (Str.ofString "-") := ⟨by decide +kernel, by decide +kernel⟩
theorem bad2 : Bad (Str.ofString "1$") := ⟨by decide +kernel, by decide +kernel⟩
theorem bad3 : Bad (Str.ofString "5.") := ⟨by decide +kernel, by decide +kernel⟩
theorem bad4 : Bad (Str.ofString "0$d") := ⟨by decide +kernel, by decide +kernel⟩
theorem bad5 : Bad (Str.ofString "65537d") := ⟨by decide +kernel, by decide +kernel⟩
theorem bad6 : Bad (Str.ofString ".65537d") := ⟨by decide +kernel, by decide +kernel⟩
theorem nf9 (r : List Int) : nfGo (57 :: 57 :: 57 :: 57 :: 57 :: r) 0 0 = none := by simp [nfGo]
theorem rs9 (r : List Int) : rsGo (57 :: 57 :: 57 :: 57 :: 57 :: r) 0 = none := by
  unfold rsGo
  rw [show (0 : Int).toNat = 0 from rfl, List.drop_zero, nf9]
theorem bad9 {x : Str} (h : x.cps.toList = List.replicate (Int.toNat 5000) 57) (hl : (x.length : Int) = 5000) : Bad (x ++ Str.ofString "d") := by
  have e : (x ++ Str.ofString "d").cps.toList = List.replicate (Int.toNat 5000) 57 ++ [100] := by
    show (x.cps ++ (Str.ofString "d").cps).toList = _
    rw [Array.toList_append, h, show (Str.ofString "d").cps.toList = [100] by decide +kernel]
  refine ⟨?_, ?_⟩
  · show (x ++ Str.ofString "d").length ≤ 6000
    rw [Str.length_append, len1d]; omega
  · rw [e, show Int.toNat 5000 = 5 + 4995 from rfl, ← List.replicate_append_replicate, List.append_assoc, List.map_append, show (List.replicate 5 57).map (fun (c : Nat) => (c : Int)) = [57, 57, 57, 57, 57] from rfl]
    exact rs9 _
theorem bad_at {a0 a1 a2 a3 a4 a5 a6 a7 : Str} {t0 t1 t2 t3 t4 t5 t6 t7 : Tok} (h0 : Bad a0) (h1 : Bad a1) (h2 : Bad a2) (h3 : Bad a3) (h4 : Bad a4) (h5 : Bad a5) (h6 : Bad a6) (h7 : Bad a7) {i : Nat} {v : Value}
    (hv : (#[Value.str a0 t0, .str a1 t1, .str a2 t2, .str a3 t3, .str a4 t4, .str a5 t5, .str a6 t6, .str a7 t7])[i]? = some v) : ∃ tx t, v = .str tx t ∧ Bad tx := by
  have hm := Array.mem_of_getElem? hv
  simp only [List.mem_toArray, List.mem_cons, List.not_mem_nil, or_false] at hm
  rcases hm with rfl | rfl | rfl | rfl | rfl | rfl | rfl | rfl
  · exact ⟨_, _, rfl, h0⟩
  · exact ⟨_, _, rfl, h1⟩
  · exact ⟨_, _, rfl, h2⟩
  · exact ⟨_, _, rfl, h3⟩
  · exact ⟨_, _, rfl, h4⟩
  · exact ⟨_, _, rfl, h5⟩
  · exact ⟨_, _, rfl, h6⟩
  · exact ⟨_, _, rfl, h7⟩
theorem good8 : rsGo ((Str.ofString "65536d").cps.toList.map fun (c : Nat) => (c : Int)) 0 = some (-1, (false, false, false, false, false), 65536, -1, 100, 6) := by kernel_rfl
theorem shaped8 {a b c d e f g h : Bool} : SeqAt.shaped (.list [.bool a, .bool b, .bool c, .bool d, .bool e, .bool f, .bool g, .bool h]) = true := by
  unfold SeqAt.shaped
  rw [Bool.and_eq_true]
  refine ⟨?_, ?_⟩
  · simp only [PyData.canLay0, PyData.canLayAll0]; rfl
  · simp [PyData.depth, PyData.depthAll]
theorem eqv8 {a b c d e f g h : Bool} : PyData.eqv (.list [.bool a, .bool b, .bool c, .bool d, .bool e, .bool f, .bool g, .bool h]) (.list [.bool a, .bool b, .bool c, .bool d, .bool e, .bool f, .bool g, .bool h]) = true := PySem.SeqAt.eqv_refl _ (SeqAt.canLay_of_shaped shaped8)
end Mine
end
section
set_option Elab.async false
set_option maxRecDepth 100000
set_option pp.maxSteps 200
set_option pp.deepTerms false
set_option linter.unusedVariables false
namespace Mine
open PySem PySem.W PySem.Spec PySem.Calls PyProof.Rows
theorem off_L1 : True := by
  w_top off
  trivial
local macro_rules | `(tactic| walk_at "none") => `(tactic| skip)
local macro_rules | `(tactic| walk_at "none") => `(tactic| skip)
local macro_rules | `(tactic| k_room) => `(tactic| ktr_room)
local macro_rules | `(tactic| units_room) => `(tactic| ktr_units)
theorem len9z : (Str.ofString "9z").length = 2 := by decide +kernel
local macro_rules | `(tactic| walk_at "binaryOp Add str str") => `(tactic| (k_here; with_reducible refine' add_str ?_ ?z; (case z => (simp only [Str.length_append, len_mk, len9z, len1d]; rw [sizeLine_eq]; omega)); intro _ _))
local macro_rules | `(tactic| walk_at "call builtin:len") => `(tactic| (k_here; (with_reducible refine' len_line ?z ?_); (case z => ((try simp only [Str.length_append, len_mk, len9z, len1d]); rw [sizeLine_eq]; omega))))
local macro_rules | `(tactic| walk_at "CompSrc") => `(tactic| (k_here; k_dflt (refine LCg.CompSrc.ledger (by rfl) (by k_asm) (by k_asm) (by k_mem) (by assumption) ?_); intro g'; refine Hold.mk ?_))
local macro_rules | `(tactic| walk_at "call builtin:str.join") => `(tactic| (k_here; (with_reducible show wpAny _ _ (call (Value.builtin _) [Value.str _ _, Value.ref _]) _ _ _); k_dflt (refine' join_ones' ?l ?i ?c ?_; (case l => is_list); (case i => assumption); (case c => omega); intro _ _)))
local macro_rules | `(tactic| walk_at "binaryOp Mult str int") => `(tactic| (k_here; (with_reducible show wpAny _ _ (binaryOp Operator.Mult (Value.str _ _) (Value.int _ _)) _ _ _); with_reducible refine mul9 (by omega) (by omega) ?_; intro x9 hx9 hx9l _ _))
local macro_rules | `(tactic| k_ne) => `(tactic| (refine neN ?_; with_reducible assumption))
theorem ownoff_cell {own : List (Addr × Obj)} {l D c : Addr} {o : Obj} (h : OwnOff own [l, D, c]) (n : c ≠ l) : OwnOff ((c, o) :: own) [l] := by
  intro p hp a ha
  rw [List.mem_singleton.mp ha]
  rcases List.mem_cons.mp hp with rfl | hp
  · exact n
  · exact h p hp l (.head _)
set_option maxHeartbeats 40000000
theorem lawHolds : PySem.Challenge.rw_oj0017_01.Holds := hd (by
  k_go0
  all_goals (try k_fold)
  rename_i W s0 s1 mg mb G Y fa o pm doc ho hg KX XX V GL T BT TE TW b10 b9 M a8 a7 hX1 scr hs hlay0 hLa hra hl2 a5 a4 lsc vsc a1 hLs rAll wl rd hIs hrr hcond1 hcond B7 hX2 hA tkA F0 oc hX4 N0 hX3
  obtain ⟨cv0, hcell⟩ : ∃ cv, oc.data = .cell cv := ⟨_, hX4⟩
  obtain ⟨m0, hm0, F1⟩ : ∃ m0, m0 (Str.ofString "script") = some _ ∧ Fr _ _ _ m0 := ⟨_, rfl, F0⟩
  clear F0 hX1 hX2 hX3 hX4 hs hlay0 hLa hra hl2 rAll wl rd hrr G Y XX V GL BT TE TW M ho
  (repeat' ((fail_if_success (with_reducible show wpAny _ _ (subscriptTail _ _ _ _) _ _ _)); walk_at "my step"))
  k_dflt (refine kba_turn (value' := PySem.Expr.Name (PySem.Str.ofString "_") ⟨0, 0, 0, 0⟩) (fun _ => rfl) ?_)
  (repeat' (walk_at "my step"))
  rename_i D1 c1 hA0 lt1 D ws hA1 hI7 hC7 hL7 lt2 l hA2 lt3 hA3 F7 N7
  with_unfolding_all refine' For_invVF F7 ?k1 ?k2 ?_
  (case k1 => exact rfl)
  (case k2 => exact rfl)
  k_whole
  (repeat' ((fail_if_success (with_reducible show wpAny _ _ (pyIter (Value.ref _)) _ _ _)); walk_at "my step"))
  rename_i hR tkR tR uR vR rgX F8 N8 kR
  with_unfolding_all refine kpr_invN (news := [(l, listOf #[.ref D, .int 0 _] 0), (D, listOf ws.toArray 0), (s1.heap.objs.size + 1, oc)]) (fun i m nx => ∃ (k : Int) (t : Tok) (oc' : Obj) (cv : Option Value), nx = [(l, listOf #[.ref D, .int k t] 0), (D, listOf ws.toArray 0), (s1.heap.objs.size + 1, oc')] ∧ oc'.data = .cell cv ∧
     m (Str.ofString "deck") = some (.ref l) ∧ 0 ≤ k ∧ k ≤ 13 * (i : Int)) (by rfl) rgX (by decide) (rangeSize_nat _ _) F8 (news_sub N8 (by lcg_sub)) ?_ ?_ ?_
  · exact ⟨0, _, oc, _, rfl, hcell, rfl, by omega, by omega⟩
  · intro i k t m₁ nx h tk own hik hown hJ F9 N9
    refine aside ?_
    intro gA hA
    obtain ⟨kk, tt, oc', cv, rfl, hcd, hm, hk0, hk1⟩ := hJ
    refine hA ?_
    clear hA gA
    have hi3 : i < 3 := by
      have := (List.getElem?_eq_some_iff.mp hik).1
      exact Nat.lt_of_lt_of_eq this (by decide)
    clear F8 N8
    (repeat' ((fail_if_success (with_reducible show wpAny _ _ (exec (Stmt.Assign _ _ _) _) _ _ _)); walk_at "my step"))
    refine mid_j (fun Qm => ∀ (h' : Heap) (tk' : Nat) (mq : Str → Option Value) (lp : Addr) (f : Int) (fcs : List Nat) (wd pr : Int) (lt : Ltr) (k2 : Int) (t' u0 u1 u2 u3 u4 u5 : Tok) (oc1 : Obj), (-1 ≤ f ∧ f ≤ 2) → fcs.length ≤ 4 → (∀ c ∈ fcs, c ∈ (Str.ofString "-+ 0#").cps.toList) → wd ∈ [0, 0, 1, 5, 12, 30] → pr ∈ [-1, -1, -1, 0, 3, 9] → kk ≤ k2 → k2 ≤ kk + 9 → Fr s1.heap s1.heap.objs.size h' mq → mq (Str.ofString "deck") = some (.ref l) → mq (Str.ofString "text") = some (.str ⟨(fieldC f ++ fcs ++ widthC wd ++ precC pr ++ [lt.code]).toArray⟩ u5) → News s1.heap s1.heap.objs.size h' ((lp, listOf [.int f u0, .str ⟨fcs.toArray⟩ u1, .int wd u2, .int pr u3, .str lt.str u4].toArray 0) :: (l, listOf #[.ref D, .int k2 t'] 0) :: (D, listOf ws.toArray 0) :: (s1.heap.objs.size + 1, oc1) :: own) → oc1.data = .cell (some (.ref lp)) → (@LT.lt Nat _ l lp ∧ @LT.lt Nat _ D lp ∧ AllLt lp ((s1.heap.objs.size + 1, oc') :: own)) → Qm .next ⟨h', s1.gens, s1.drawn, tk', s1.os⟩) ?_ ?_
    · intro Qm hQm
      (repeat' ((fail_if_success (with_reducible show wpAny _ _ (call (Value.ref 116) _) _ _ _)); walk_at "my step"))
      k_dflt (refine' lawspec_K (d := l) (lx := D) ?kB ?kF ?kX ?kT ?kK (rest := (s1.heap.objs.size + 1, oc') :: own) ?kN ?kd ?ko ?ki ?kl ?k0 ?k1 ?kr ?ku ?_; (case kB => k_asm); (case kF => k_asm); (case kX => k_asm); (case kT => k_asm); (case kK => exact rfl); (case kN => k_asm); (case kd => k_ne); (case ki => exact hI7); (case kl => exact List.length_take_le 40 scr); (case k0 => omega); (case k1 => omega); (case kr => ktr_room); (case ku => ktr_units))
      case ko =>
        exact ownoff_cell hown (Nat.ne_of_lt lt3.2.2)
      intro DT lp f fcs wd pr lt k2 tt2 u0 u1 u2 u3 u4 u5 h2 tk2 hf hfl hfc hwd hpr hk2 hk3 F2 N2 hlp hDT
      (repeat' (walk_at "my step"))
      rename_i hB1 hB2 oc1 hoc1 hB3 F3 N3
      exact hQm _ _ _ lp f fcs wd pr lt k2 tt2 u0 u1 u2 u3 u4 u5 oc1 hf hfl hfc hwd hpr hk2 hk3 F3 (by first | exact rfl | assumption) (by first | exact rfl | assumption) (news_sub N3 (fun p hp => List.mem_cons_of_mem _ hp)) hoc1 hlp
    rintro h1 tk1 mq1 lp f fcs wd pr lt k2 t2 u0 u1 u2 u3 u4 u5 oc1 hf hfl hfc hwd hpr hk2 hk3 F1 e1 e2 N1 hoc1 hlp
    clear F9 N9 hm hcd
    (try dsimp only)
    generalize htx : (⟨(fieldC f ++ fcs ++ widthC wd ++ precC pr ++ [lt.code]).toArray⟩ : Str) = tx at *
    (repeat' ((fail_if_success (with_reducible show wpAny _ _ (exec (Stmt.Assign _ _ _) _) _ _ _)); walk_at "my step"))
    refine mid_j (fun Qm => ∀ (h' : Heap) (tk' : Nat) (mq : Str → Option Value) (hc : List Nat) (k3 : Int) (t' u6 : Tok), hc ∈ [[], [97], [97, 98]] → k2 ≤ k3 → k3 ≤ k2 + 1 → Fr s1.heap s1.heap.objs.size h' mq → mq (Str.ofString "deck") = some (.ref l) → mq (Str.ofString "text") = some (.str tx u5) → mq (Str.ofString "head") = some (.str ⟨hc.toArray⟩ u6) → News s1.heap s1.heap.objs.size h' ((lp, listOf [.int f u0, .str ⟨fcs.toArray⟩ u1, .int wd u2, .int pr u3, .str lt.str u4].toArray 0) :: (l, listOf #[.ref D, .int k3 t'] 0) :: (D, listOf ws.toArray 0) :: (s1.heap.objs.size + 1, oc1) :: own) → Qm .next ⟨h', s1.gens, s1.drawn, tk', s1.os⟩) ?_ ?_
    · intro Qm hQm
      (repeat' ((fail_if_success (with_reducible show wpAny _ _ (call (Value.ref 104) _) _ _ _)); walk_at "my step"))
      k_dflt (refine' draw_K ?kB ?kF ?kX ?kT ?kK ?kN ?kU ?kl ?kd ?ki ?kz ?k0 ?k1 ?km ?kr ?ku ?_; (case kB => k_asm); (case kF => k_asm); (case kX => k_asm); (case kT => k_asm); (case kK => first | exact rfl | assumption); (case kN => k_asm); (case kU => k_updF); (case kl => is_list); (case kd => k_ne); (case ki => exact hI7); (case kz => exact List.length_take_le 40 scr); (case k0 => omega); (case k1 => omega); (case km => first | omega | decide); (case kr => ktr_room); (case ku => ktr_units))
      intro rn tr2 tv2 hh2 tk2 rn0 rn1 FF2 NN2 KK2
      (try dsimp only at NN2); (try dsimp only); (try k_fold)
      have hrn : rn = 0 ∨ rn = 1 ∨ rn = 2 := by omega
      rcases hrn with rfl | rfl | rfl <;> (repeat' (walk_at "my step"))
      · rename_i z1 z2 z3 z4 F3 N3
        exact hQm _ _ _ [] (k2 + 1) _ _ (.head _) (by omega) (by omega) F3 (by first | exact rfl | assumption) (by first | exact rfl | assumption) (by first | exact rfl | assumption) N3
      · rename_i z1 z2 z3 z4 F3 N3
        exact hQm _ _ _ [97] (k2 + 1) _ _ (.tail _ (.head _)) (by omega) (by omega) F3 (by first | exact rfl | assumption) (by first | exact rfl | assumption) (by first | exact rfl | assumption) N3
      · rename_i z1 z2 z3 z4 F3 N3
        exact hQm _ _ _ [97, 98] (k2 + 1) _ _ (.tail _ (.tail _ (.head _))) (by omega) (by omega) F3 (by first | exact rfl | assumption) (by first | exact rfl | assumption) (by first | exact rfl | assumption) N3
    rintro h2 tk2 mq2 hc k3 t3 u6 hhc hk4 hk5 F2 e1 e2 e3 N2
    clear F1 N1
    (try dsimp only)
    have hlh : hc.length ≤ 2 := by
      simp only [List.mem_cons, List.mem_nil_iff, or_false] at hhc
      rcases hhc with rfl | rfl | rfl <;> decide
    have hlt : tx.length ≤ 20 := by rw [← htx]; exact txC_len hfl
    have hrs := rs_plain (lt := lt) hhc hf hfl hfc hwd hpr
    (repeat' ((fail_if_success (with_reducible show wpAny _ _ (exec (Stmt.Assign _ _ _) _) _ _ _)); walk_at "my step"))
    refine mid_j (fun Qm => ∀ (h' : Heap) (tk' : Nat) (mq : Str → Option Value) (x dx : Addr) (es : List DictEntry) (tp : Tok), IsSpec W.params es f (has ⟨fcs.toArray⟩ "-") (has ⟨fcs.toArray⟩ "+") (has ⟨fcs.toArray⟩ " ") (has ⟨fcs.toArray⟩ "0") (has ⟨fcs.toArray⟩ "#") wd pr ⟨#[lt.code]⟩ → Fr s1.heap s1.heap.objs.size h' mq → mq (Str.ofString "deck") = some (.ref l) → mq (Str.ofString "text") = some (.str tx u5) → mq (Str.ofString "head") = some (.str ⟨hc.toArray⟩ u6) → mq (Str.ofString "spec") = some (.ref x) → mq (Str.ofString "place") = some (.int ((hc.length : Int) + (txC f fcs wd pr lt).length) tp) → News s1.heap s1.heap.objs.size h' ((x, instObj 51 dx) :: (dx, dictOf es 9) :: (lp, listOf [.int f u0, .str ⟨fcs.toArray⟩ u1, .int wd u2, .int pr u3, .str lt.str u4].toArray 0) :: (l, listOf #[.ref D, .int k3 t3] 0) :: (D, listOf ws.toArray 0) :: (s1.heap.objs.size + 1, oc1) :: own) → @LT.lt Nat _ dx x → AllNe x ((lp, listOf [.int f u0, .str ⟨fcs.toArray⟩ u1, .int wd u2, .int pr u3, .str lt.str u4].toArray 0) :: (l, listOf #[.ref D, .int k3 t3] 0) :: (D, listOf ws.toArray 0) :: (s1.heap.objs.size + 1, oc1) :: own) → AllNe dx ((lp, listOf [.int f u0, .str ⟨fcs.toArray⟩ u1, .int wd u2, .int pr u3, .str lt.str u4].toArray 0) :: (l, listOf #[.ref D, .int k3 t3] 0) :: (D, listOf ws.toArray 0) :: (s1.heap.objs.size + 1, oc1) :: own) → Qm .next ⟨h', s1.gens, s1.drawn, tk', s1.os⟩) ?_ ?_
    · intro Qm hQm
      (repeat' ((fail_if_success (with_reducible show wpAny _ _ (eval (Expr.ListComp _ _ _ _) _) _ _ _)); walk_at "my step"))
      k_dflt (refine comp_str F2 (by with_unfolding_all rfl) (by decide) (by rfl) (by decide) (by rfl) ?_ (by intro _; rfl))
      (repeat' (walk_at "my step"))
      rename_i tj1 tj2
      k_dflt (refine StrSrc.intro (news := _) rfl F2 N2 ?_ fun g => ?_)
      · show ((⟨hc.toArray⟩ : Str) ++ tx ++ Str.ofString "9z").length ≤ sizeLine
        rw [Str.length_append, Str.length_append, len_mk, len9z, sizeLine_eq]; omega
      refine comp_inv (fun i ys nw => nw = ((lp, listOf [.int f u0, .str ⟨fcs.toArray⟩ u1, .int wd u2, .int pr u3, .str lt.str u4].toArray 0) :: (l, listOf #[.ref D, .int k3 t3] 0) :: (D, listOf ws.toArray 0) :: (s1.heap.objs.size + 1, oc1) :: own) ∧ IntsAre ys ((((⟨hc.toArray⟩ : Str) ++ tx ++ Str.ofString "9z").cps.toList.take i).map fun (c : Nat) => (c : Int))) ⟨rfl, .nil⟩ ?_ ?_
      · intro i v ys nw I oI C oC D9 m₂ h tk E' hin hv hJ hC hx F9 N9 off ne
        refine aside ?_
        intro gA hA
        obtain ⟨rfl, hys⟩ := hJ
        refine hA ?_
        clear hA gA
        refine aside ?_
        intro gA hA
        obtain ⟨c, u, hc9, rfl⟩ := hv
        refine hA ?_
        clear hA gA
        have off0 := off
        (repeat' (walk_at "my step"))
        exact LCg.CompEnd.intro F9 N9 _ (fun p hp => hp) off0 True.intro ⟨rfl, by rw [take_snoc hc9, List.map_append]; exact IntsAre.append hys (.cons _ _ .nil)⟩
      · intro ys nw hJ
        refine aside ?_
        intro gA hA
        obtain ⟨rfl, hys⟩ := hJ
        refine hA ?_
        clear hA gA
        have ecat : ((⟨hc.toArray⟩ : Str) ++ tx ++ Str.ofString "9z").cps.toList = hc ++ txC f fcs wd pr lt ++ [57, 122] := by rw [← htx]; exact cat_cps _ _
        rw [List.take_of_length_le (by simp), ecat] at hys
        intro D9 h3 tk3 F3 N3 o3
        (repeat' ((fail_if_success (with_reducible show wpAny _ _ (call (Value.ref 76) _) _ _ _)); walk_at "my step"))
        have htl := txC_len (f := f) (wd := wd) (pr := pr) (lt := lt) hfl
        have hl9 : ((hc ++ txC f fcs wd pr lt ++ [57, 122]).map fun (c : Nat) => (c : Int)).length ≤ 10000 := by
          rw [List.length_map, List.length_append, List.length_append]
          show hc.length + (txC f fcs wd pr lt).length + 2 ≤ 10000
          omega
        have hco := ltr_code lt
        k_dflt (refine' read_K ?kB ?kF ?kX ?kT ?kK ?kN ?kl ?ki ?kz ?k0 ?k1 ?kr hco.1 hco.2 ?kd ?ku ?_; (case kB => k_asm); (case kF => exact F3); (case kX => k_asm); (case kT => k_asm); (case kK => exact rfl); (case kN => exact N3); (case kl => is_list); (case ki => exact hys); (case kr => exact hrs); (case kz => exact hl9); (case k0 => omega); (case k1 => (show (hc.length : Int) ≤ 10000; omega)); (case kd => ktr_room); (case ku => ktr_units))
        intro DT2 x dx es tz h4 tk4 hsp F4 N4 n41 n42 n43 l41 l42 G4
        (repeat' (walk_at "my step"))
        rename_i y1 y2 y3 F5 N5
        have sub3 : ∀ p ∈ ((lp, listOf [.int f u0, .str ⟨fcs.toArray⟩ u1, .int wd u2, .int pr u3, .str lt.str u4].toArray 0) :: (l, listOf #[.ref D, .int k3 t3] 0) :: (D, listOf ws.toArray 0) :: (s1.heap.objs.size + 1, oc1) :: own), p ∈ (D9, LCg.lst ys) :: (lp, listOf [.int f u0, .str ⟨fcs.toArray⟩ u1, .int wd u2, .int pr u3, .str lt.str u4].toArray 0) :: (l, listOf #[.ref D, .int k3 t3] 0) :: (D, listOf ws.toArray 0) :: (s1.heap.objs.size + 1, oc1) :: own := fun p hp => .tail _ hp
        refine hQm _ _ _ x dx es tz hsp F5 (by first | exact rfl | assumption) (by first | exact rfl | assumption) (by first | exact rfl | assumption) (by first | exact rfl | assumption) (by first | exact rfl | assumption) (fun p hp => N5 p ?_) l41 (allNe_of fun p hp => n42 p (sub3 p hp)) (allNe_of fun p hp => n43 p (sub3 p hp))
        rcases List.mem_cons.mp hp with rfl | hp
        · exact .tail _ (.head _)
        rcases List.mem_cons.mp hp with rfl | hp
        · exact .tail _ (.tail _ (.head _))
        exact .tail _ (.tail _ (.tail _ (.tail _ hp)))
    rintro h3 tk3 mq3 x dx es tp hsp F3 e1 e2 e3 e4 e5 N3 hdx hnx hndx
    clear F2 N2
    (try dsimp only)
    simp only [AllNe] at hnx hndx
    have nxl : @Ne Nat x l := fun q => hnx.2.1 q.symm
    have ndl : @Ne Nat dx l := fun q => hndx.2.1 q.symm
    have npl : @Ne Nat lp l := Nat.ne_of_gt hlp.1
    have nDl : @Ne Nat D l := Nat.ne_of_lt lt3.1
    (repeat' ((fail_if_success (with_reducible show wpAny _ _ (exec (Stmt.Assign _ _ _) _) _ _ _)); walk_at "my step"))
    refine mid_j (fun Qm => ∀ (h' : Heap) (tk' : Nat) (mq : Str → Option Value) (lh : Addr) (v0 v6 v7 v8 : Tok), Fr s1.heap s1.heap.objs.size h' mq → mq (Str.ofString "told_here") = some (.ref lh) → mq (Str.ofString "deck") = some (.ref l) → mq (Str.ofString "text") = some (.str tx u5) → mq (Str.ofString "head") = some (.str ⟨hc.toArray⟩ u6) → mq (Str.ofString "spec") = some (.ref x) → mq (Str.ofString "place") = some (.int ((hc.length : Int) + (txC f fcs wd pr lt).length) tp) → News s1.heap s1.heap.objs.size h' ((lh, listOf #[.int f v0, .int wd v6, .int pr v7, .str ⟨#[lt.code]⟩ v8] 0) :: (x, instObj 51 dx) :: (dx, dictOf es 9) :: (lp, listOf [.int f u0, .str ⟨fcs.toArray⟩ u1, .int wd u2, .int pr u3, .str lt.str u4].toArray 0) :: (l, listOf #[.ref D, .int k3 t3] 0) :: (D, listOf ws.toArray 0) :: (s1.heap.objs.size + 1, oc1) :: own) → AllLt lh ((x, instObj 51 dx) :: (dx, dictOf es 9) :: (lp, listOf [.int f u0, .str ⟨fcs.toArray⟩ u1, .int wd u2, .int pr u3, .str lt.str u4].toArray 0) :: (l, listOf #[.ref D, .int k3 t3] 0) :: (D, listOf ws.toArray 0) :: (s1.heap.objs.size + 1, oc1) :: own) → Qm .next ⟨h', s1.gens, s1.drawn, tk', s1.os⟩) ?_ ?_
    · intro Qm hQm
      refine IsSpec.elim hsp ?_
      intro q0  q1  q2  q3  q4  q5  q6  q7  q8  r0  r6  r7  r8   qEs
      subst qEs
      (repeat' (walk_at "my step"))
      rename_i y1 y2 y3 y4 F4 N4
      exact hQm _ _ _ _ _ _ _ _ F4 (by first | exact rfl | assumption) (by first | exact rfl | assumption) (by first | exact rfl | assumption) (by first | exact rfl | assumption) (by first | exact rfl | assumption) (by first | exact rfl | assumption) N4 y3
    rintro h4 tk4 mq4 lh v0 v6 v7 v8 F4 e0 e1 e2 e3 e4 e5 N4 hlh
    clear F3 N3
    (try dsimp only)
    simp only [AllLt] at hlh
    (repeat' ((fail_if_success (with_reducible show wpAny _ _ (exec (Stmt.If _ _ _ _) _) _ _ _)); walk_at "my step"))
    refine mid_j (fun Qm => ∀ (h' : Heap) (tk' : Nat) (mq : Str → Option Value), Fr s1.heap s1.heap.objs.size h' mq → mq (Str.ofString "deck") = some (.ref l) → mq (Str.ofString "spec") = some (.ref x) → News s1.heap s1.heap.objs.size h' ((x, instObj 51 dx) :: (dx, dictOf es 9) :: (lp, listOf [.int f u0, .str ⟨fcs.toArray⟩ u1, .int wd u2, .int pr u3, .str lt.str u4].toArray 0) :: (l, listOf #[.ref D, .int k3 t3] 0) :: (D, listOf ws.toArray 0) :: (s1.heap.objs.size + 1, oc1) :: own) → Qm .next ⟨h', s1.gens, s1.drawn, tk', s1.os⟩) ?_ ?_
    · intro Qm hQm
      (repeat' ((fail_if_success (with_reducible show wpAny _ _ (compareOp _ (Value.ref _) (Value.ref _)) _ _ _)); walk_at "my step"))
      k_dflt (refine ne_dataH (by ke_read) (by ke_read) ?sh1 ?sh2 (by ke_room) ?_)
      case sh1 => exact shaped4
      case sh2 => exact shaped4'
      rw [eqv4]
      (try dsimp only)
      have hpl : ((hc.length : Nat) : Int) + ((txC f fcs wd pr lt).length : Nat) = (((⟨hc.toArray⟩ : Str) ++ tx).length : Nat) := by
        rw [Str.length_append, ← htx, len_mk, len_mk]; exact (Int.natCast_add _ _).symm
      (repeat' (walk_at "my step"))
      · rename_i hne
        exact absurd hpl hne
      · rename_i F9 N9 _ _ _ _
        exact hQm _ _ _ F9 (by first | exact rfl | assumption) (by first | exact rfl | assumption) (fun p hp => N9 p (.tail _ (.tail _ (.tail _ (.tail _ hp)))))
    rintro h5 tk5 mq5 F5 e1 e2 N5
    clear F4 N4 hlh
    (try dsimp only)
    (repeat' ((fail_if_success (with_reducible show wpAny _ _ (exec (Stmt.Assign _ _ _) _) _ _ _)); walk_at "my step"))
    refine mid_j (fun Qm => ∀ (h' : Heap) (tk' : Nat) (mq : Str → Option Value) (lm : Addr), Fr s1.heap s1.heap.objs.size h' mq → mq (Str.ofString "marks") = some (.ref lm) → mq (Str.ofString "deck") = some (.ref l) → mq (Str.ofString "spec") = some (.ref x) → News s1.heap s1.heap.objs.size h' ((lm, listOf #[.bool (has ⟨fcs.toArray⟩ "-"), .bool (has ⟨fcs.toArray⟩ "+"), .bool (has ⟨fcs.toArray⟩ " "), .bool (has ⟨fcs.toArray⟩ "0"), .bool (has ⟨fcs.toArray⟩ "#")] 0) :: (x, instObj 51 dx) :: (dx, dictOf es 9) :: (lp, listOf [.int f u0, .str ⟨fcs.toArray⟩ u1, .int wd u2, .int pr u3, .str lt.str u4].toArray 0) :: (l, listOf #[.ref D, .int k3 t3] 0) :: (D, listOf ws.toArray 0) :: (s1.heap.objs.size + 1, oc1) :: own) → AllLt lm ((x, instObj 51 dx) :: (dx, dictOf es 9) :: (lp, listOf [.int f u0, .str ⟨fcs.toArray⟩ u1, .int wd u2, .int pr u3, .str lt.str u4].toArray 0) :: (l, listOf #[.ref D, .int k3 t3] 0) :: (D, listOf ws.toArray 0) :: (s1.heap.objs.size + 1, oc1) :: own) → Qm .next ⟨h', s1.gens, s1.drawn, tk', s1.os⟩) ?_ ?_
    · intro Qm hQm
      refine IsSpec.elim hsp ?_
      intro q0  q1  q2  q3  q4  q5  q6  q7  q8  r0  r6  r7  r8   qEs
      subst qEs
      (repeat' (walk_at "my step"))
      rename_i y1 y2 y3 y4 F6 N6
      exact hQm _ _ _ _ F6 (by first | exact rfl | assumption) (by first | exact rfl | assumption) (by first | exact rfl | assumption) N6 y3
    rintro h6 tk6 mq6 lm F6 e0 e1 e2 N6 hlm
    clear F5 N5
    (try dsimp only)
    simp only [AllLt] at hlm
    (repeat' ((fail_if_success (with_reducible show wpAny _ _ (exec (Stmt.If _ _ _ _) _) _ _ _)); walk_at "my step"))
    refine mid_j (fun Qm => ∀ (h' : Heap) (tk' : Nat) (mq : Str → Option Value), Fr s1.heap s1.heap.objs.size h' mq → mq (Str.ofString "deck") = some (.ref l) → mq (Str.ofString "spec") = some (.ref x) → News s1.heap s1.heap.objs.size h' ((x, instObj 51 dx) :: (dx, dictOf es 9) :: (lp, listOf [.int f u0, .str ⟨fcs.toArray⟩ u1, .int wd u2, .int pr u3, .str lt.str u4].toArray 0) :: (l, listOf #[.ref D, .int k3 t3] 0) :: (D, listOf ws.toArray 0) :: (s1.heap.objs.size + 1, oc1) :: own) → Qm .next ⟨h', s1.gens, s1.drawn, tk', s1.os⟩) ?_ ?_
    · intro Qm hQm
      (repeat' ((fail_if_success (with_reducible show wpAny _ _ (eval (Expr.ListComp _ _ _ _) _) _ _ _)); walk_at "my step"))
      k_dflt (refine comp_str F6 (by with_unfolding_all rfl) (by decide) (by rfl) (by decide) (by rfl) ?_ (by intro _; rfl))
      (repeat' (walk_at "my step"))
      k_dflt (refine StrSrc.intro (news := _) rfl F6 N6 (by rw [sizeLine_eq]; decide +kernel) fun g => ?_)
      refine comp_inv (fun i ys nw => nw = ((lm, listOf #[.bool (has ⟨fcs.toArray⟩ "-"), .bool (has ⟨fcs.toArray⟩ "+"), .bool (has ⟨fcs.toArray⟩ " "), .bool (has ⟨fcs.toArray⟩ "0"), .bool (has ⟨fcs.toArray⟩ "#")] 0) :: (x, instObj 51 dx) :: (dx, dictOf es 9) :: (lp, listOf [.int f u0, .str ⟨fcs.toArray⟩ u1, .int wd u2, .int pr u3, .str lt.str u4].toArray 0) :: (l, listOf #[.ref D, .int k3 t3] 0) :: (D, listOf ws.toArray 0) :: (s1.heap.objs.size + 1, oc1) :: own) ∧ ys = (((Str.ofString "-+ 0#").cps.toList.take i).map fun c => Value.bool (hasC ⟨fcs.toArray⟩ c))) ⟨rfl, rfl⟩ ?_ ?_
      · intro i v ys nw I oI C oC D9 m₂ h tk E' hin hv hJ hC hx F9 N9 off ne
        refine aside ?_
        intro gA hA
        obtain ⟨rfl, hys⟩ := hJ
        refine hA ?_
        clear hA gA
        refine aside ?_
        intro gA hA
        obtain ⟨c, u, hc9, rfl⟩ := hv
        refine hA ?_
        clear hA gA
        have off0 := off
        (repeat' (walk_at "my step"))
        exact LCg.CompEnd.intro F9 N9 _ (fun p hp => hp) off0 True.intro ⟨rfl, by rw [take_snoc hc9, List.map_append, hys]; rfl⟩
      · intro ys nw hJ
        refine aside ?_
        intro gA hA
        obtain ⟨rfl, hys⟩ := hJ
        refine hA ?_
        clear hA gA
        rw [List.take_of_length_le (by decide +kernel), hasC5] at hys
        subst hys
        intro D9 h7 tk7 F7 N7 o7
        (repeat' ((fail_if_success (with_reducible show wpAny _ _ (compareOp _ (Value.ref _) (Value.ref _)) _ _ _)); walk_at "my step"))
        k_dflt (refine ne_dataH (by ke_read) (by ke_read) ?sh1 ?sh2 (by ke_room) ?_)
        case sh1 => exact shaped5
        case sh2 => exact shaped5
        rw [eqv5]
        (try dsimp only)
        (repeat' (walk_at "my step"))
        exact hQm _ _ _ F7 (by first | exact rfl | assumption) (by first | exact rfl | assumption) (fun p hp => N7 p (.tail _ (.tail _ hp)))
    rintro h7 tk7 mq7 F7 e1 e2 N7
    clear F6 N6 hlm
    (try dsimp only)
    (repeat' ((fail_if_success (with_reducible show wpAny _ _ (exec (Stmt.Assign _ _ _) _) _ _ _)); walk_at "my step"))
    refine mid_j (fun Qm => ∀ (h' : Heap) (tk' : Nat) (mq : Str → Option Value) (n : Int) (tn : Tok) (k4 : Int) (t' : Tok), n.natAbs < 10 ^ 31 → k3 ≤ k4 → k4 ≤ k3 + 3 → Fr s1.heap s1.heap.objs.size h' mq → mq (Str.ofString "number") = some (.int n tn) → mq (Str.ofString "deck") = some (.ref l) → mq (Str.ofString "spec") = some (.ref x) → News s1.heap s1.heap.objs.size h' ((x, instObj 51 dx) :: (dx, dictOf es 9) :: (lp, listOf [.int f u0, .str ⟨fcs.toArray⟩ u1, .int wd u2, .int pr u3, .str lt.str u4].toArray 0) :: (l, listOf #[.ref D, .int k4 t'] 0) :: (D, listOf ws.toArray 0) :: (s1.heap.objs.size + 1, oc1) :: own) → Qm .next ⟨h', s1.gens, s1.drawn, tk', s1.os⟩) ?_ ?_
    · intro Qm hQm
      (repeat' ((fail_if_success (with_reducible show wpAny _ _ (call (Value.ref 111) _) _ _ _)); walk_at "my step"))
      k_dflt (refine' pickL_K ?kB ?kF ?kX ?kT ?kK ?kN ?kU ?kl ?kd ?ki ?kz ?k0 ?k1 ?hx ?hxd ?hxi ?m0 ?m1 ?kr ?ku ?_; (case kB => k_asm); (case kF => k_asm); (case kX => k_asm); (case kT => k_asm); (case kK => first | exact rfl | assumption); (case kN => k_asm); (case kU => k_updF); (case kl => is_list); (case kd => k_ne); (case ki => exact hI7); (case kz => exact List.length_take_le 40 scr); (case k0 => omega); (case k1 => omega); (case hx => is_list); (case hxd => k_ne); (case hxi => exact .cons _ _ (.cons _ _ (.cons _ _ (.cons _ _ (.cons _ _ .nil))))); (case m0 => decide); (case m1 => decide); (case kr => ktr_room); (case ku => ktr_units))
      intro pe tpe tpv hpe tkpe hpm FFp NNp KKp
      (try dsimp only at NNp); (try dsimp only); (try k_fold)
      have hpe0 := pow_ks hpm
      have hpw := ten_pow hpe0.1 hpe0.2
      (repeat' ((fail_if_success (with_reducible show wpAny _ _ (call (Value.ref 104) _) _ _ _)); walk_at "my step"))
      k_dflt (refine' draw_K ?kB ?kF ?kX ?kT ?kK ?kN ?kU ?kl ?kd ?ki ?kz ?k0 ?k1 ?km ?kr ?ku ?_; (case kB => k_asm); (case kF => k_asm); (case kX => k_asm); (case kT => k_asm); (case kK => first | exact rfl | assumption); (case kN => k_asm); (case kU => k_updF); (case kl => is_list); (case kd => k_ne); (case ki => exact hI7); (case kz => exact List.length_take_le 40 scr); (case k0 => omega); (case k1 => omega); (case km => first | omega | decide); (case kr => ktr_room); (case ku => ktr_units))
      intro ra tra tva hha tka ra0 ra1 FFa NNa KKa
      (try dsimp only at NNa); (try dsimp only); (try k_fold)
      (repeat' ((fail_if_success (with_reducible show wpAny _ _ (call (Value.ref 104) _) _ _ _)); walk_at "my step"))
      k_dflt (refine' draw_K ?kB ?kF ?kX ?kT ?kK ?kN ?kU ?kl ?kd ?ki ?kz ?k0 ?k1 ?km ?kr ?ku ?_; (case kB => k_asm); (case kF => k_asm); (case kX => k_asm); (case kT => k_asm); (case kK => first | exact rfl | assumption); (case kN => k_asm); (case kU => k_updF); (case kl => is_list); (case kd => k_ne); (case ki => exact hI7); (case kz => exact List.length_take_le 40 scr); (case k0 => omega); (case k1 => omega); (case km => first | omega | decide); (case kr => ktr_room); (case ku => ktr_units))
      intro rb trb tvb hhb tkb rb0 rb1 FFb NNb KKb
      (try dsimp only at NNb); (try dsimp only); (try k_fold)
      (repeat' (walk_at "my step"))
      rename_i F9 N9
      exact hQm _ _ _ _ _ (k3 + 1 + 1 + 1) _ (num_small ra0 ra1 hpw.2 rb0 rb1) (by omega) (by omega) F9 (by first | exact rfl | assumption) (by first | exact rfl | assumption) (by first | exact rfl | assumption) (fun p hp => N9 p (.tail _ hp))
    rintro h8 tk8 mq8 n tn k4 t4 hnn hk6 hk7 F8 e0 e1 e2 N8
    clear F7 N7
    (try dsimp only)
    have hw01 : 0 ≤ wd ∧ wd ≤ 100 := ⟨(wd_rng hwd).1, Int.le_trans (wd_rng hwd).2 (by decide)⟩
    have hp01 : -1 ≤ pr ∧ pr ≤ 100 := ⟨(pr_rng hpr).1, Int.le_trans (pr_rng hpr).2 (by decide)⟩
    refine aside ?_
    intro gA hA
    obtain ⟨cN, ecN, hcl, hc128, hRt⟩ := codes_right (flags := ⟨fcs.toArray⟩) (l := lt) (lt := lt.str) (n := n) (wd := wd) (pr := pr) rfl hw01.1 hw01.2 hp01.1 hp01.2 hnn
    refine hA ?_
    clear hA gA
    (repeat' ((fail_if_success (with_reducible show wpAny _ _ (exec (Stmt.If _ _ _ _) _) _ _ _)); walk_at "my step"))
    refine mid_j (fun Qm => ∀ (h' : Heap) (tk' : Nat) (mq : Str → Option Value), Fr s1.heap s1.heap.objs.size h' mq → mq (Str.ofString "deck") = some (.ref l) → News s1.heap s1.heap.objs.size h' ((l, listOf #[.ref D, .int k4 t4] 0) :: (D, listOf ws.toArray 0) :: (s1.heap.objs.size + 1, oc1) :: own) → Qm .next ⟨h', s1.gens, s1.drawn, tk', s1.os⟩) ?_ ?_
    · intro Qm hQm
      (repeat' ((fail_if_success (with_reducible show wpAny _ _ (eval (Expr.ListComp _ _ _ _) _) _ _ _)); walk_at "my step"))
      k_dflt (refine LCg.ListComp_U (F₀ := F8) (by with_unfolding_all rfl) (by decide) (by rfl) (by decide) (by rfl) ?_)
      (repeat' ((fail_if_success (with_reducible show wpAny _ _ (call (Value.ref 97) _) _ _ _)); walk_at "my step"))
      k_dflt (refine' codes_K ?kB ?kF ?kX ?kT ?kK ?kN ?hx ?hdx ?hs ?hlt ?w0 ?w1 ?p0 ?p1 ?hnn ?kr ?ku ?_; (case kB => k_asm); (case kF => k_asm); (case kX => k_asm); (case kT => k_asm); (case kK => first | exact rfl | assumption); (case kN => k_asm); (case hx => k_mem); (case hdx => k_mem); (case hs => exact hsp); (case hlt => exact lt.str_code); (case w0 => exact hw01.1); (case w1 => exact hw01.2); (case p0 => exact hp01.1); (case p1 => exact hp01.2); (case hnn => exact hnn); (case kr => ktr_room); (case ku => ktr_units))
      intro r n' vs' h9 tk9 hI9 FF9 NN9 ne9 GG9
      rw [ecN] at hI9
      have hvl : vs'.length = cN.length := by rw [hI9.length, ci_len]
      have hvsz : vs'.toArray.size ≤ sizeLine := by rw [List.size_toArray, sizeLine_eq]; omega
      (try dsimp only); (try k_fold)
      (repeat' (walk_at "my step"))
      refine comp_inv (fun i ys nw => nw = ((r, listOf vs'.toArray n') :: (x, instObj 51 dx) :: (dx, dictOf es 9) :: (lp, listOf [.int f u0, .str ⟨fcs.toArray⟩ u1, .int wd u2, .int pr u3, .str lt.str u4].toArray 0) :: (l, listOf #[.ref D, .int k4 t4] 0) :: (D, listOf ws.toArray 0) :: (s1.heap.objs.size + 1, oc1) :: own) ∧ StrsAre ys ((cN.take i).map fun c => ⟨#[c]⟩)) ⟨rfl, .nil⟩ ?_ ?_
      · intro i v ys nw I oI C oC D9 m₂ h tk E' hin hv hJ hC hx F9 N9 off ne
        refine aside ?_
        intro gA hA
        obtain ⟨rfl, hys⟩ := hJ
        refine hA ?_
        clear hA gA
        rw [List.getElem?_toArray] at hv
        refine aside ?_
        intro gA hA
        obtain ⟨cz, tz, rfl, hcz⟩ := hI9.at i v hv
        refine hA ?_
        clear hA gA
        refine aside ?_
        intro gA hA
        obtain ⟨c, hc9, rfl⟩ := ci_at hcz
        refine hA ?_
        clear hA gA
        have hc7 : c < 128 := hc128 c (List.mem_of_getElem? hc9)
        have off0 := off
        (repeat' (walk_at "my step"))
        exact LCg.CompEnd.intro F9 N9 _ (fun p hp => hp) off0 (.inr ⟨_, .head _, rfl, _, rfl⟩) ⟨rfl, by rw [take_snocL hc9, List.map_append]; exact hys.append' (.cons _ _ .nil)⟩
      · intro ys nw hJ
        refine aside ?_
        intro gA hA
        obtain ⟨rfl, hys⟩ := hJ
        refine hA ?_
        clear hA gA
        rw [List.size_toArray, hvl, List.take_length] at hys
        intro D9 h10 tk10 F10 N10 o10
        (repeat' (walk_at "my step"))
        k_dflt (refine' right_KE ?kB ?kF ?kX ?kT ?kK ?kN ?hp ?hlt ?R ?kr ?ku ?_; (case kB => k_asm); (case kF => k_asm); (case kX => k_asm); (case kT => k_asm); (case kK => first | exact rfl | assumption); (case kN => exact N10); (case hp => exact .tail _ (.tail _ (.tail _ (.tail _ (.head _))))); (case hlt => exact rfl); (case R => exact hRt); (case kr => ktr_room); (case ku => ktr_units))
        intro h11 tk11 F11 N11 G11
        (repeat' (walk_at "my step"))
        exact hQm _ _ _ F11 (by first | exact rfl | assumption) (fun p hp => N11 p (.tail _ (.tail _ (.tail _ (.tail _ (.tail _ hp))))))
    rintro h9 tk9 mq9 F9 e1 N9
    clear F8 N8
    (try dsimp only)
    (repeat' (walk_at "my step"))
    exact InvEndN.intro F9 N9 (nx := [(l, listOf #[.ref D, .int k4 t4] 0), (D, listOf ws.toArray 0), (s1.heap.objs.size + 1, oc1)]) ⟨k4, t4, oc1, _, rfl, hoc1, (by assumption), by omega, by omega⟩ rfl (fun p hp => List.mem_append_left own hp) (fun p hp => List.mem_append_right [(l, listOf #[.ref D, .int k4 t4] 0), (D, listOf ws.toArray 0), (s1.heap.objs.size + 1, oc1)] hp)
  · intro m nx h tk hJ F9 N9
    refine aside ?_
    intro gA hA
    obtain ⟨k, t, oc', cv, rfl, hcd, hm, hk0, hk1⟩ := hJ
    refine hA ?_
    clear hA gA
    clear F8 N8
    replace F9 : Fr s1.heap s1.heap.objs.size h _ := F9
    replace N9 : News s1.heap s1.heap.objs.size h _ := N9
    (try dsimp only)
    (repeat' ((fail_if_success (with_reducible show wpAny _ _ (exec (Stmt.Assign _ _ _) _) _ _ _)); walk_at "my step"))
    with_reducible refine' comp_tupA F9 ?b1 ?b2 ?b3 ?b4 ?b5 ?b6 ?b7 ?b8 ?b9 ?_ ?b10
    case b1 => rfl
    case b2 => with_unfolding_all rfl
    case b3 => with_unfolding_all rfl
    case b4 => decide
    case b5 => rfl
    case b6 => decide
    case b7 => rfl
    case b8 => rfl
    case b9 => rfl
    case b10 => intro _; rfl
    (repeat' (walk_at "my step"))
    rename_i x9 hx9 hx9l _ _ _ _ DT hT FT NT lT
    have hB9 := bad9 hx9 hx9l
    generalize x9 ++ Str.ofString "d" = tx9 at *
    k_dflt (refine TupSrc.intro (news := _) rfl FT NT (.head _) (by rw [sizeLine_eq]; show (8 : Nat) ≤ 16777216; decide) fun g => ?_)
    refine comp_inv (fun i ys nw => nw = _ ∧ ys = List.replicate i (.bool true)) ⟨rfl, rfl⟩ ?_ ?_
    · intro i v ys nw I oI C oC D9 m₂ h tk E' hin hv hJ hC hx F9 N9 off ne
      refine aside ?_
      intro gA hA
      obtain ⟨rfl, rfl⟩ := hJ
      refine hA ?_
      clear hA gA
      refine aside ?_
      intro gA hA
      obtain ⟨tb, tkb, rfl, hbd⟩ := bad_at bad0 bad1 bad2 bad3 bad4 bad5 bad6 hB9 hv
      refine hA ?_
      clear hA gA
      have off0 := off
      (repeat' ((fail_if_success (with_reducible show wpAny _ _ (call (Value.ref 135) _) _ _ _)); walk_at "my step"))
      k_dflt (refine' refusedT_K ?kB ?kF ?kX ?kT ?kK ?hb ?ho ?kN ?htx ?hr ?kr ?ku ?_; (case kB => k_asm); (case kF => k_asm); (case kX => k_asm); (case kT => k_asm); (case kK => first | exact rfl | assumption); (case hb => exact rfl); (case ho => exact rfl); (case kN => k_asm); (case htx => exact hbd.1); (case hr => exact hbd.2); (case kr => ktr_room); (case ku => ktr_units))
      intro h11 tk11 F11 N11
      (try dsimp only); (try k_fold)
      (repeat' (walk_at "my step"))
      exact LCg.CompEnd.intro F11 N11 _ (fun p hp => hp) off0 (.head _) ⟨rfl, (List.replicate_succ' ..).symm⟩
    · intro ys nw hJ
      refine aside ?_
      intro gA hA
      obtain ⟨rfl, rfl⟩ := hJ
      refine hA ?_
      clear hA gA
      intro D9 h10 tk10 F10 N10 o10
      (repeat' ((fail_if_success (with_reducible show wpAny _ _ (call (Value.ref 135) _) _ _ _)); walk_at "my step"))
      k_dflt (refine' refusedF_K ?kB ?kF ?kX ?kT ?kK ?kN ?htx ?hr ?h0 ?h1 ?kr ?ku ?_; (case kB => k_asm); (case kF => k_asm); (case kX => k_asm); (case kT => k_asm); (case kK => first | exact rfl | assumption); (case kN => k_asm); (case htx => decide +kernel); (case hr => exact good8); (case h0 => decide); (case h1 => decide); (case kr => ktr_room); (case ku => ktr_units))
      intro h11 tk11 F11 N11
      (try dsimp only); (try k_fold)
      (repeat' (walk_at "my step")))
end Mine
end
end
theorem PySem.Challenge.cw_oj0017_01_holds : PySem.Challenge.rw_oj0017_01.Holds := by
  exact Mine.lawHolds
