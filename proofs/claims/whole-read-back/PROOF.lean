import PyProof.Rows.All
import Wide.All
import OpenK.AllK
import Wide.FinOn
import HandS.Text
import HandS.List
import HandS.ForMost
import HandS.Defaults
import HandS.Walk
import HandS.NoneIn
import HandS.TupAny
import HandS.IsInst
import HandS.Zip
import HandS.Conv
import HandS.Flow
import HandS.Evl
import HandS.More
import HandS.Deep
import HandS.Strs
import KE.KStateDown
import Lean
import HandS.Ends
import HandS.Words
import HandS.Head0
import HandS.Head1
import HandS.Head2
import HandS.HeadEnd
import HandS.HeadHook1
import HandS.HeadHook2
import HandS.HeadHook3
import HandS.HeadHook4
import PySem.Challenge.RW_callfold_k13_whole_read_back

set_option Elab.async false
set_option linter.all false
set_option autoImplicit false
/-! The data of the book in plain Lean: expressions, rows, deeds; the rows of text as events; the reader as a plain machine; reading what is written gives the book. -/
namespace Cf
open PySem

/-! ### data -/
inductive Op where
  | plus | less | times | over | rest | under | same
  deriving DecidableEq
inductive Ex where
  | num (n : Nat)
  | nam (x : Str)
  | bin (o : Op) (a b : Ex)
inductive Rw where
  | set (x : Str) (e : Ex)
  | say (e : Ex)
  | call (x d : Str) (args : List Ex) (m : Nat)
  | when (e : Ex) (rs os : List Rw)
  | turn (e : Ex) (rs : List Rw)
structure Dd where
  name : Str
  params : List Str
  rows : List Rw
  give : Ex
abbrev Bk := List Dd

def Op.word : Op → Str
  | .plus => "plus" | .less => "less" | .times => "times" | .over => "over" | .rest => "rest" | .under => "under" | .same => "same"
def Op.sign : Op → Str
  | .plus => "+" | .less => "-" | .times => "*" | .over => "/" | .rest => ":" | .under => "<" | .same => "="

def Ex.enc : Ex → PyData
  | .num n => .tuple [.str "number", .int n]
  | .nam x => .tuple [.str "name", .str x]
  | .bin o a b => .tuple [.str o.word, a.enc, b.enc]
mutual
def Rw.enc : Rw → PyData
  | .set x e => .tuple [.str "set", .str x, e.enc]
  | .say e => .tuple [.str "say", e.enc]
  | .call x d args m => .tuple [.str "call", .str x, .str d, .tuple (args.map Ex.enc), .int m]
  | .when e rs os => .tuple [.str "when", e.enc, .tuple (encRs rs), .tuple (encRs os)]
  | .turn e rs => .tuple [.str "turn", e.enc, .tuple (encRs rs)]
def encRs : List Rw → List PyData
  | [] => []
  | r :: rs => r.enc :: encRs rs
end
theorem encRs_map : ∀ rs : List Rw, encRs rs = rs.map Rw.enc
  | [] => by simp [encRs]
  | r :: rs => by simp [encRs, encRs_map rs]
def Dd.enc (d : Dd) : PyData := .tuple [.str d.name, .tuple (d.params.map PyData.str), .tuple (encRs d.rows), d.give.enc]
def encB (B : Bk) : PyData := .tuple (B.map Dd.enc)

/-! ### counts -/
mutual
def Rw.cnt : Rw → Nat
  | .set _ _ => 1
  | .say _ => 1
  | .call _ _ _ _ => 1
  | .when _ rs os => 1 + cntRs rs + cntRs os
  | .turn _ rs => 1 + cntRs rs
def cntRs : List Rw → Nat
  | [] => 0
  | r :: rs => r.cnt + cntRs rs
end
/- the rows in reading order -/
mutual
def Rw.flat : Rw → List Rw
  | .set x e => [.set x e]
  | .say e => [.say e]
  | .call x d as m => [.call x d as m]
  | .when e rs os => .when e rs os :: (flatRs rs ++ flatRs os)
  | .turn e rs => .turn e rs :: flatRs rs
def flatRs : List Rw → List Rw
  | [] => []
  | r :: rs => r.flat ++ flatRs rs
end
mutual
def Rw.marks : Rw → List Nat
  | .set _ _ => []
  | .say _ => []
  | .call _ _ _ m => [m]
  | .when _ rs os => marksRs rs ++ marksRs os
  | .turn _ rs => marksRs rs
def marksRs : List Rw → List Nat
  | [] => []
  | r :: rs => r.marks ++ marksRs rs
end
def marksB : Bk → List Nat
  | [] => []
  | d :: B => marksRs d.rows ++ marksB B

/-! ### what a right book is -/
def Nm (k : Nat) (x : Str) : Prop := 1 ≤ x.length ∧ x.length ≤ k ∧ ∀ c ∈ TL.tl x, 97 ≤ c ∧ c ≤ 122
def ExOk : Nat → Ex → Prop
  | _, .num n => n ≤ 999999
  | _, .nam x => Nm 4 x
  | 0, .bin _ _ _ => False
  | d + 1, .bin _ a b => ExOk d a ∧ ExOk d b
theorem ExOk.mono : ∀ {e : Ex} {d d' : Nat}, ExOk d e → d ≤ d' → ExOk d' e
  | .num _, _, _, h, _ => by
    unfold ExOk at h ⊢
    exact h
  | .nam _, _, _, h, _ => by
    unfold ExOk at h ⊢
    exact h
  | .bin _ a b, 0, _, h, _ => by
    unfold ExOk at h
    exact h.elim
  | .bin _ a b, d + 1, 0, h, hd => by omega
  | .bin _ a b, d + 1, d' + 1, h, hd => by
    unfold ExOk at h ⊢
    exact ⟨h.1.mono (by omega), h.2.mono (by omega)⟩
mutual
def RwOk : Nat → Rw → Prop
  | _, .set x e => Nm 4 x ∧ ExOk 4 e
  | _, .say e => ExOk 4 e
  | _, .call x d args m => Nm 4 x ∧ Nm 8 d ∧ args.length ≤ 4 ∧ (∀ e ∈ args, ExOk 4 e) ∧ m ≤ 99
  | 0, .when _ _ _ => False
  | k + 1, .when e rs os => ExOk 4 e ∧ RwsOk k rs ∧ RwsOk k os
  | 0, .turn _ _ => False
  | k + 1, .turn e rs => ExOk 4 e ∧ RwsOk k rs
def RwsOk : Nat → List Rw → Prop
  | _, [] => True
  | k, r :: rs => RwOk k r ∧ RwsOk k rs
end
def DdOk (d : Dd) : Prop := Nm 8 d.name ∧ d.params.length ≤ 4 ∧ (∀ p ∈ d.params, Nm 4 p) ∧ d.params.Nodup ∧ RwsOk 2 d.rows ∧ cntRs d.rows ≤ 20 ∧ ExOk 4 d.give
/-- each call's deed is there, its args as many as the params -/
def CallsOk (B : Bk) : Prop := ∀ d ∈ B, ∀ x c as m, Rw.call x c as m ∈ flatRs d.rows → ∃ t ∈ B, t.name = c ∧ t.params.length = as.length
structure BkOk (B : Bk) : Prop where
  len : B.length ≤ 8
  dds : ∀ d ∈ B, DdOk d
  names : (B.map Dd.name).Nodup
  calls : CallsOk B
  marks : (marksB B).Nodup
  few : (marksB B).length ≤ 10

/-! ### the rows of text, as events -/
inductive Ln where
  | deed (n : Str) (ps : List Str)
  | give (e : Ex)
  | els
  | fin
  | set (x : Str) (e : Ex)
  | say (e : Ex)
  | call (x d : Str) (args : List Ex) (m : Nat)
  | when (e : Ex)
  | turn (e : Ex)
mutual
def Rw.lns : Rw → List Ln
  | .set x e => [.set x e]
  | .say e => [.say e]
  | .call x d as m => [.call x d as m]
  | .when e rs os => .when e :: (lnsRs rs ++ .els :: (lnsRs os ++ [.fin]))
  | .turn e rs => .turn e :: (lnsRs rs ++ [.fin])
def lnsRs : List Rw → List Ln
  | [] => []
  | r :: rs => r.lns ++ lnsRs rs
end
def Dd.lns (d : Dd) : List Ln := .deed d.name d.params :: (lnsRs d.rows ++ [.give d.give])
def lnsB : Bk → List Ln
  | [] => []
  | d :: B => d.lns ++ lnsB B

def LnOk : Ln → Prop
  | .deed n ps => Nm 8 n ∧ ps.length ≤ 4 ∧ ∀ p ∈ ps, Nm 4 p
  | .give e => ExOk 4 e
  | .els => True
  | .fin => True
  | .set x e => Nm 4 x ∧ ExOk 4 e
  | .say e => ExOk 4 e
  | .call x d args m => Nm 4 x ∧ Nm 8 d ∧ args.length ≤ 4 ∧ (∀ e ∈ args, ExOk 4 e) ∧ m ≤ 99
  | .when e => ExOk 4 e
  | .turn e => ExOk 4 e

mutual
theorem lnsOk : ∀ (r : Rw) (k : Nat), RwOk k r → ∀ l ∈ r.lns, LnOk l
  | .set x e, k, h, l, hl => by
    simp only [Rw.lns, List.mem_singleton] at hl
    subst hl
    unfold RwOk at h
    exact h
  | .say e, k, h, l, hl => by
    simp only [Rw.lns, List.mem_singleton] at hl
    subst hl
    unfold RwOk at h
    exact h
  | .call x d as m, k, h, l, hl => by
    simp only [Rw.lns, List.mem_singleton] at hl
    subst hl
    unfold RwOk at h
    exact h
  | .when e rs os, 0, h, l, hl => by
    unfold RwOk at h
    exact h.elim
  | .when e rs os, k + 1, h, l, hl => by
    unfold RwOk at h
    simp only [Rw.lns, List.mem_cons, List.mem_append, List.mem_singleton, List.not_mem_nil, or_false] at hl
    rcases hl with rfl | hl | rfl | hl | rfl
    · exact h.1
    · exact lnsRsOk rs k h.2.1 l hl
    · trivial
    · exact lnsRsOk os k h.2.2 l hl
    · trivial
  | .turn e rs, 0, h, l, hl => by
    unfold RwOk at h
    exact h.elim
  | .turn e rs, k + 1, h, l, hl => by
    unfold RwOk at h
    simp only [Rw.lns, List.mem_cons, List.mem_append, List.mem_singleton, List.not_mem_nil, or_false] at hl
    rcases hl with rfl | hl | rfl
    · exact h.1
    · exact lnsRsOk rs k h.2 l hl
    · trivial
theorem lnsRsOk : ∀ (rs : List Rw) (k : Nat), RwsOk k rs → ∀ l ∈ lnsRs rs, LnOk l
  | [], k, h, l, hl => by
    simp only [lnsRs, List.not_mem_nil] at hl
  | r :: rs, k, h, l, hl => by
    unfold RwsOk at h
    simp only [lnsRs, List.mem_append] at hl
    rcases hl with hl | hl
    · exact lnsOk r k h.1 l hl
    · exact lnsRsOk rs k h.2 l hl
end
theorem lnsBOk : ∀ (B : Bk), (∀ d ∈ B, DdOk d) → ∀ l ∈ lnsB B, LnOk l
  | [], _, l, hl => by simp only [lnsB, List.not_mem_nil] at hl
  | d :: B, h, l, hl => by
    simp only [lnsB, List.mem_append] at hl
    rcases hl with hl | hl
    · obtain ⟨h1, h2, h3, h4, h5, h6, h7⟩ := h d (List.mem_cons_self ..)
      simp only [Dd.lns, List.mem_cons, List.mem_append, List.mem_singleton, List.not_mem_nil, or_false] at hl
      rcases hl with rfl | hl | rfl
      · exact ⟨h1, h2, h3⟩
      · exact lnsRsOk _ _ h5 l hl
      · exact h7
    · exact lnsBOk B (fun d hd => h d (List.mem_cons_of_mem _ hd)) l hl

/-! ### the reader as a plain machine -/
inductive Blk where
  | deed (rs : List Rw)
  | turn (e : Ex) (rs : List Rw)
  | whenA (e : Ex) (rs : List Rw)
  | whenB (e : Ex) (rs os : List Rw)
def Blk.lay : Blk → List Rw → Blk
  | .deed rs, ns => .deed (rs ++ ns)
  | .turn e rs, ns => .turn e (rs ++ ns)
  | .whenA e rs, ns => .whenA e (rs ++ ns)
  | .whenB e rs os, ns => .whenB e rs (os ++ ns)
theorem Blk.lay_lay (b : Blk) (n m : List Rw) : (b.lay n).lay m = b.lay (n ++ m) := by
  cases b <;> simp [Blk.lay]
theorem Blk.lay_nil (b : Blk) : b.lay [] = b := by
  cases b <;> simp [Blk.lay]
structure RS where
  deeds : List Dd
  head : Option (Str × List Str)
  /-- the innermost first -/
  blocks : List Blk
  rows : Nat
  calls : Nat

inductive Step : RS → Ln → RS → Prop
  | deed {ds : List Dd} {bs : List Blk} {r c : Nat} {n : Str} {ps : List Str} : ds.length < 8 → Step ⟨ds, none, bs, r, c⟩ (.deed n ps) ⟨ds, some (n, ps), [.deed []], 0, c⟩
  | give {ds : List Dd} {rs : List Rw} {r c : Nat} {n : Str} {ps : List Str} {e : Ex} : Step ⟨ds, some (n, ps), [.deed rs], r, c⟩ (.give e) ⟨ds ++ [⟨n, ps, rs, e⟩], none, [.deed rs], r, c⟩
  | els {ds : List Dd} {h : Str × List Str} {bs : List Blk} {r c : Nat} {e : Ex} {rs : List Rw} : Step ⟨ds, some h, .whenA e rs :: bs, r, c⟩ .els ⟨ds, some h, .whenB e rs [] :: bs, r, c⟩
  | finT {ds : List Dd} {h : Str × List Str} {b : Blk} {bs : List Blk} {r c : Nat} {e : Ex} {rs : List Rw} : Step ⟨ds, some h, .turn e rs :: b :: bs, r, c⟩ .fin ⟨ds, some h, b.lay [.turn e rs] :: bs, r, c⟩
  | finW {ds : List Dd} {h : Str × List Str} {b : Blk} {bs : List Blk} {r c : Nat} {e : Ex} {rs os : List Rw} : Step ⟨ds, some h, .whenB e rs os :: b :: bs, r, c⟩ .fin ⟨ds, some h, b.lay [.when e rs os] :: bs, r, c⟩
  | set {ds : List Dd} {h : Str × List Str} {b : Blk} {bs : List Blk} {r c : Nat} {x : Str} {e : Ex} : bs.length < 3 → r < 20 → Step ⟨ds, some h, b :: bs, r, c⟩ (.set x e) ⟨ds, some h, b.lay [.set x e] :: bs, r + 1, c⟩
  | say {ds : List Dd} {h : Str × List Str} {b : Blk} {bs : List Blk} {r c : Nat} {e : Ex} : bs.length < 3 → r < 20 → Step ⟨ds, some h, b :: bs, r, c⟩ (.say e) ⟨ds, some h, b.lay [.say e] :: bs, r + 1, c⟩
  | call {ds : List Dd} {h : Str × List Str} {b : Blk} {bs : List Blk} {r c : Nat} {x d : Str} {as : List Ex} {m : Nat} : bs.length < 3 → r < 20 → c < 10 → Step ⟨ds, some h, b :: bs, r, c⟩ (.call x d as m) ⟨ds, some h, b.lay [.call x d as m] :: bs, r + 1, c + 1⟩
  | when {ds : List Dd} {h : Str × List Str} {b : Blk} {bs : List Blk} {r c : Nat} {e : Ex} : bs.length < 3 → r < 20 → Step ⟨ds, some h, b :: bs, r, c⟩ (.when e) ⟨ds, some h, .whenA e [] :: b :: bs, r + 1, c⟩
  | turn {ds : List Dd} {h : Str × List Str} {b : Blk} {bs : List Blk} {r c : Nat} {e : Ex} : bs.length < 3 → r < 20 → Step ⟨ds, some h, b :: bs, r, c⟩ (.turn e) ⟨ds, some h, .turn e [] :: b :: bs, r + 1, c⟩

def Run : RS → List Ln → RS → Prop
  | s, [], s' => s = s'
  | s, l :: ls, s' => ∃ s1, Step s l s1 ∧ Run s1 ls s'
theorem Run.app : ∀ {l1 l2 : List Ln} {s s1 s2 : RS}, Run s l1 s1 → Run s1 l2 s2 → Run s (l1 ++ l2) s2
  | [], _, _, _, _, h1, h2 => by
    have e := h1
    unfold Run at e
    subst e
    exact h2
  | l :: ls, l2, s, s1, s2, h1, h2 => by
    obtain ⟨s', h, h'⟩ := h1
    exact ⟨s', h, h'.app h2⟩
theorem Run.one {l : Ln} {s s1 : RS} (h : Step s l s1) : Run s [l] s1 := ⟨s1, h, rfl⟩

mutual
theorem run_r : ∀ (r : Rw) (k : Nat), RwOk k r → ∀ (ds : List Dd) (h : Str × List Str) (b : Blk) (bs : List Blk) (n c : Nat), bs.length + 1 + k ≤ 3 → n + r.cnt ≤ 20 → c + r.marks.length ≤ 10 →
    Run ⟨ds, some h, b :: bs, n, c⟩ r.lns ⟨ds, some h, b.lay [r] :: bs, n + r.cnt, c + r.marks.length⟩
  | .set x e, k, _, ds, h, b, bs, n, c, h1, h2, h3 => by
    simp only [Rw.cnt, Rw.marks, Rw.lns, List.length_nil, Nat.add_zero] at *
    exact .one (.set (by omega) (by omega))
  | .say e, k, _, ds, h, b, bs, n, c, h1, h2, h3 => by
    simp only [Rw.cnt, Rw.marks, Rw.lns, List.length_nil, Nat.add_zero] at *
    exact .one (.say (by omega) (by omega))
  | .call x d as m, k, _, ds, h, b, bs, n, c, h1, h2, h3 => by
    simp only [Rw.cnt, Rw.marks, Rw.lns, List.length_singleton] at *
    exact .one (.call (by omega) (by omega) (by omega))
  | .when e rs os, 0, hk, _, _, _, _, _, _, _, _, _ => by
    unfold RwOk at hk
    exact hk.elim
  | .when e rs os, k + 1, hk, ds, h, b, bs, n, c, h1, h2, h3 => by
    unfold RwOk at hk
    simp only [Rw.cnt, Rw.marks, Rw.lns, List.length_append] at *
    refine ⟨_, .when (by omega) (by omega), ?_⟩
    have r1 := run_rs rs k hk.2.1 ds h (.whenA e []) (b :: bs) (n + 1) c (by simp only [List.length_cons]; omega) (by omega) (by omega)
    refine r1.app ⟨_, .els, ?_⟩
    have r2 := run_rs os k hk.2.2 ds h (.whenB e ([] ++ rs) []) (b :: bs) (n + 1 + cntRs rs) (c + (marksRs rs).length) (by simp only [List.length_cons]; omega) (by omega) (by omega)
    refine r2.app (.one ?_)
    have st : Step ⟨ds, some h, .whenB e ([] ++ rs) ([] ++ os) :: b :: bs, n + 1 + cntRs rs + cntRs os, c + (marksRs rs).length + (marksRs os).length⟩ .fin
        ⟨ds, some h, b.lay [.when e ([] ++ rs) ([] ++ os)] :: bs, n + 1 + cntRs rs + cntRs os, c + (marksRs rs).length + (marksRs os).length⟩ := .finW
    have e1 : n + (1 + cntRs rs + cntRs os) = n + 1 + cntRs rs + cntRs os := by omega
    have e2 : c + ((marksRs rs).length + (marksRs os).length) = c + (marksRs rs).length + (marksRs os).length := by omega
    rw [e1, e2]
    exact st
  | .turn e rs, 0, hk, _, _, _, _, _, _, _, _, _ => by
    unfold RwOk at hk
    exact hk.elim
  | .turn e rs, k + 1, hk, ds, h, b, bs, n, c, h1, h2, h3 => by
    unfold RwOk at hk
    simp only [Rw.cnt, Rw.marks, Rw.lns] at *
    refine ⟨_, .turn (by omega) (by omega), ?_⟩
    have r1 := run_rs rs k hk.2 ds h (.turn e []) (b :: bs) (n + 1) c (by simp only [List.length_cons]; omega) (by omega) (by omega)
    refine r1.app (.one ?_)
    have st : Step ⟨ds, some h, .turn e ([] ++ rs) :: b :: bs, n + 1 + cntRs rs, c + (marksRs rs).length⟩ .fin
        ⟨ds, some h, b.lay [.turn e ([] ++ rs)] :: bs, n + 1 + cntRs rs, c + (marksRs rs).length⟩ := .finT
    have e1 : n + (1 + cntRs rs) = n + 1 + cntRs rs := by omega
    rw [e1]
    exact st
theorem run_rs : ∀ (rs : List Rw) (k : Nat), RwsOk k rs → ∀ (ds : List Dd) (h : Str × List Str) (b : Blk) (bs : List Blk) (n c : Nat), bs.length + 1 + k ≤ 3 → n + cntRs rs ≤ 20 → c + (marksRs rs).length ≤ 10 →
    Run ⟨ds, some h, b :: bs, n, c⟩ (lnsRs rs) ⟨ds, some h, b.lay rs :: bs, n + cntRs rs, c + (marksRs rs).length⟩
  | [], k, _, ds, h, b, bs, n, c, h1, h2, h3 => by
    simp only [cntRs, marksRs, lnsRs, Blk.lay_nil, List.length_nil, Nat.add_zero]
    rfl
  | r :: rs, k, hk, ds, h, b, bs, n, c, h1, h2, h3 => by
    unfold RwsOk at hk
    simp only [cntRs, marksRs, lnsRs, List.length_append] at *
    have r1 := run_r r k hk.1 ds h b bs n c h1 (by omega) (by omega)
    have r2 := run_rs rs k hk.2 ds h (b.lay [r]) bs (n + r.cnt) (c + r.marks.length) h1 (by omega) (by omega)
    have e1 : n + (r.cnt + cntRs rs) = n + r.cnt + cntRs rs := by omega
    have e2 : c + (r.marks.length + (marksRs rs).length) = c + r.marks.length + (marksRs rs).length := by omega
    rw [e1, e2]
    have e3 : b.lay (r :: rs) = (b.lay [r]).lay rs := by
      rw [Blk.lay_lay]
      rfl
    rw [e3]
    exact r1.app r2
end
theorem run_d {d : Dd} (hd : DdOk d) {ds : List Dd} {bs : List Blk} {n c : Nat} (h8 : ds.length < 8) (hc : c + (marksRs d.rows).length ≤ 10) :
    Run ⟨ds, none, bs, n, c⟩ d.lns ⟨ds ++ [d], none, [.deed d.rows], cntRs d.rows, c + (marksRs d.rows).length⟩ := by
  obtain ⟨h1, h2, h3, h4, h5, h6, h7⟩ := hd
  refine ⟨_, .deed h8, ?_⟩
  have r1 := run_rs d.rows 2 h5 ds (d.name, d.params) (.deed []) [] 0 c (by decide) (by omega) hc
  rw [Nat.zero_add] at r1
  refine r1.app (.one ?_)
  exact .give
theorem run_b : ∀ (B : Bk), (∀ d ∈ B, DdOk d) → ∀ (ds : List Dd) (bs : List Blk) (n c : Nat), ds.length + B.length ≤ 8 → c + (marksB B).length ≤ 10 →
    ∃ bs' n', Run ⟨ds, none, bs, n, c⟩ (lnsB B) ⟨ds ++ B, none, bs', n', c + (marksB B).length⟩
  | [], _, ds, bs, n, c, _, _ => ⟨bs, n, by simp only [lnsB, marksB, List.append_nil, List.length_nil, Nat.add_zero]; rfl⟩
  | d :: B, h, ds, bs, n, c, h8, hc => by
    simp only [marksB, List.length_append, List.length_cons] at *
    have r1 := run_d (bs := bs) (n := n) (h d (List.mem_cons_self ..)) (ds := ds) (c := c) (by omega) (by omega)
    obtain ⟨bs', n', r2⟩ := run_b B (fun x hx => h x (List.mem_cons_of_mem _ hx)) (ds ++ [d]) [.deed d.rows] (cntRs d.rows) (c + (marksRs d.rows).length) (by simp only [List.length_append, List.length_singleton]; omega) (by omega)
    refine ⟨bs', n', ?_⟩
    have e2 : c + ((marksRs d.rows).length + (marksB B).length) = c + (marksRs d.rows).length + (marksB B).length := by omega
    have e3 : ds ++ d :: B = ds ++ [d] ++ B := by simp
    rw [e2, e3]
    exact r1.app r2
/-! ### the machine's lists stay small -/
def Blk.len : Blk → Nat
  | .deed rs => rs.length
  | .turn _ rs => rs.length
  | .whenA _ rs => rs.length
  | .whenB _ rs os => rs.length + os.length
theorem Blk.len_lay (b : Blk) (n : List Rw) : (b.lay n).len = b.len + n.length := by
  cases b <;> simp [Blk.len, Blk.lay]
  omega
structure Sm (s : RS) : Prop where
  sum : (s.blocks.map Blk.len).sum + s.blocks.length ≤ s.rows + 1
  rows : s.rows ≤ 20
  deeds : s.deeds.length ≤ 8
  more : s.head ≠ none → s.deeds.length < 8
theorem Sm.blk {ds : List Dd} {h : Option (Str × List Str)} {b : Blk} {bs : List Blk} {r c : Nat} (m : Sm ⟨ds, h, b :: bs, r, c⟩) : b.len ≤ 20 := by
  have h1 := m.sum
  have h2 := m.rows
  simp only [List.map_cons, List.sum_cons, List.length_cons] at h1 h2
  omega
theorem Step.sm {s s' : RS} {l : Ln} (h : Step s l s') (m : Sm s) : Sm s' := by
  obtain ⟨m1, m2, m3, m4⟩ := m
  cases h with
  | deed h8 => exact ⟨by simp [Blk.len], by simp, m3, fun _ => h8⟩
  | give =>
    have := m4 (by simp)
    exact ⟨m1, m2, by simp only [List.length_append, List.length_singleton]; simp only at this; omega, fun z => absurd rfl z⟩
  | els => exact ⟨by simpa [Blk.len] using m1, m2, m3, m4⟩
  | finT =>
    refine ⟨?_, m2, m3, m4⟩
    simp only [List.map_cons, List.sum_cons, List.length_cons, Blk.len_lay, List.length_nil] at m1 ⊢
    omega
  | finW =>
    refine ⟨?_, m2, m3, m4⟩
    simp only [List.map_cons, List.sum_cons, List.length_cons, Blk.len_lay, List.length_nil] at m1 ⊢
    omega
  | set h1 h2 =>
    refine ⟨?_, by simp only; omega, m3, m4⟩
    simp only [List.map_cons, List.sum_cons, List.length_cons, Blk.len_lay, List.length_nil] at m1 ⊢
    omega
  | say h1 h2 =>
    refine ⟨?_, by simp only; omega, m3, m4⟩
    simp only [List.map_cons, List.sum_cons, List.length_cons, Blk.len_lay, List.length_nil] at m1 ⊢
    omega
  | call h1 h2 h3 =>
    refine ⟨?_, by simp only; omega, m3, m4⟩
    simp only [List.map_cons, List.sum_cons, List.length_cons, Blk.len_lay, List.length_nil] at m1 ⊢
    omega
  | when h1 h2 =>
    refine ⟨?_, by simp only; omega, m3, m4⟩
    simp only [List.map_cons, List.sum_cons, List.length_cons, Blk.len, List.length_nil] at m1 ⊢
    omega
  | turn h1 h2 =>
    refine ⟨?_, by simp only; omega, m3, m4⟩
    simp only [List.map_cons, List.sum_cons, List.length_cons, Blk.len, List.length_nil] at m1 ⊢
    omega
def RS0 : RS := ⟨[], none, [], 0, 0⟩
theorem run_book {B : Bk} (h : BkOk B) : ∃ bs n c, Run RS0 (lnsB B) ⟨B, none, bs, n, c⟩ := by
  obtain ⟨bs, n, r⟩ := run_b B h.dds [] [] 0 0 (by simpa using h.len) (by simpa using h.few)
  exact ⟨bs, n, _, by simpa [RS0] using r⟩
theorem sm0 : Sm RS0 := ⟨by decide, by decide, by decide, fun z => absurd rfl z⟩
theorem encRs_app (a b : List Rw) : encRs (a ++ b) = encRs a ++ encRs b := by
  rw [encRs_map, encRs_map, encRs_map, List.map_append]
end Cf


set_option Elab.async false
set_option linter.all false
set_option autoImplicit false
/-! The texts of the book in plain Lean: signs, lengths, words, lines, the read-back by split. -/
namespace Cf
open PySem TL L2

/-! ### signs -/
theorem tl_len (x : Str) : (tl x).length = x.length := (len_tl x).symm
theorem app_tl {x y z : Str} (h : tl x ++ tl y = tl z) : x ++ y = z := ext_tl (by rw [tl_append, h])
def SMALL : Str := "abcdefghijklmnopqrstuvwxyz"
def FIGS : Str := "0123456789"
theorem tl_small : tl SMALL = List.range' 97 26 := by decide +kernel
theorem tl_figs : tl FIGS = List.range' 48 10 := by decide +kernel
theorem mem_small {c : Nat} : c ∈ tl SMALL ↔ 97 ≤ c ∧ c ≤ 122 := by
  rw [tl_small, List.mem_range'_1]
  omega
theorem mem_figs {c : Nat} : c ∈ tl FIGS ↔ 48 ≤ c ∧ c ≤ 57 := by
  rw [tl_figs, List.mem_range'_1]
  omega
def Op.code : Op → Nat
  | .plus => 43 | .less => 45 | .times => 42 | .over => 47 | .rest => 58 | .under => 60 | .same => 61
theorem tl_sign (o : Op) : tl o.sign = [o.code] := by cases o <;> decide +kernel
theorem sign_mk (o : Op) : o.sign = ⟨#[o.code]⟩ := ext_tl (tl_sign o)
theorem code_sg (o : Op) : 42 ≤ o.code ∧ o.code ≤ 61 := by cases o <;> decide
/-- a letter or a figure -/
def Al (c : Nat) : Prop := (97 ≤ c ∧ c ≤ 122) ∨ (48 ≤ c ∧ c ≤ 57)
theorem code_al (o : Op) : ¬ Al o.code := by
  cases o <;> simp [Al, Op.code]

/-! ### the texts -/
def numS (n : Nat) : Str := Str.ofString (toString ((n : Nat) : Int))
theorem tl_numS (n : Nat) : tl (numS n) = numL n := tl_num n
def Ex.text : Ex → Str
  | .num n => numS n
  | .nam x => x
  | .bin o a b => ((("(" : Str) ++ a.text) ++ o.sign ++ b.text) ++ (")" : Str)
theorem tl_open : tl ("(" : Str) = [40] := by decide +kernel
theorem tl_close : tl (")" : Str) = [41] := by decide +kernel
theorem tl_blank : tl (" " : Str) = [32] := by decide +kernel
theorem tl_line : tl ("\n" : Str) = [10] := by decide +kernel
theorem tl_bin (o : Op) (a b : Ex) : tl (Ex.bin o a b).text = 40 :: (tl a.text ++ (o.code :: (tl b.text ++ [41]))) := by
  show tl (((("(" : Str) ++ a.text) ++ o.sign ++ b.text) ++ (")" : Str)) = _
  rw [tl_append, tl_append, tl_append, tl_append, tl_open, tl_close, tl_sign]
  simp
theorem num_len {n : Nat} (h : n ≤ 999999) : (numL n).length ≤ 6 := numL_len (by decide) (by omega)
theorem num_pos (n : Nat) : 1 ≤ (numL n).length := List.length_pos_iff.mpr (numL_ne n)
theorem num_sg {n c : Nat} (h : c ∈ numL n) : 48 ≤ c ∧ c ≤ 57 := numL_digits n c h
theorem text_len : ∀ {e : Ex} {d : Nat}, ExOk d e → e.text.length + 3 ≤ 9 * 2 ^ d
  | .num n, d, h => by
    unfold ExOk at h
    have h1 := num_len h
    have h2 : (numS n).length = (numL n).length := by rw [len_tl, tl_numS]
    have h3 : 0 < 2 ^ d := Nat.two_pow_pos d
    show (numS n).length + 3 ≤ _
    omega
  | .nam x, d, h => by
    unfold ExOk at h
    have h1 := h.2.1
    have h3 : 0 < 2 ^ d := Nat.two_pow_pos d
    show x.length + 3 ≤ _
    omega
  | .bin o a b, 0, h => by
    unfold ExOk at h
    exact h.elim
  | .bin o a b, d + 1, h => by
    unfold ExOk at h
    have h1 := text_len h.1
    have h2 := text_len h.2
    have e : (Ex.bin o a b).text.length = a.text.length + b.text.length + 3 := by
      rw [len_tl, tl_bin, len_tl, len_tl]
      simp
      omega
    rw [e, Nat.pow_succ]
    omega
theorem text_len4 {e : Ex} (h : ExOk 4 e) : e.text.length ≤ 141 := by
  have := text_len h
  omega
/-- all signs of a written expression stand between ( and z -/
theorem text_sg : ∀ {e : Ex} {d : Nat}, ExOk d e → ∀ c ∈ tl e.text, 40 ≤ c ∧ c ≤ 122
  | .num n, d, h, c, hc => by
    have hc' : c ∈ numL n := by rw [← tl_numS]; exact hc
    have := num_sg hc'
    omega
  | .nam x, d, h, c, hc => by
    unfold ExOk at h
    have := h.2.2 c hc
    omega
  | .bin o a b, 0, h, _, _ => by
    unfold ExOk at h
    exact h.elim
  | .bin o a b, d + 1, h, c, hc => by
    unfold ExOk at h
    rw [tl_bin] at hc
    simp only [List.mem_cons, List.mem_append, List.mem_singleton, List.not_mem_nil, or_false] at hc
    rcases hc with rfl | hc | rfl | hc | rfl
    · omega
    · exact text_sg h.1 c hc
    · have := code_sg o
      omega
    · exact text_sg h.2 c hc
    · omega
theorem text_pos : ∀ {e : Ex} {d : Nat}, ExOk d e → 1 ≤ (tl e.text).length
  | .num n, d, h => by
    show 1 ≤ (tl (numS n)).length
    rw [tl_numS]
    exact num_pos n
  | .nam x, d, h => by
    unfold ExOk at h
    rw [tl_len]
    exact h.1
  | .bin o a b, _, h => by
    rw [tl_bin]
    simp

/-! ### words and lines -/
def Ln.words : Ln → List Str
  | .deed n ps => "deed" :: n :: ps
  | .give e => ["give", e.text]
  | .els => ["else"]
  | .fin => ["end"]
  | .set x e => ["set", x, e.text]
  | .say e => ["say", e.text]
  | .call x d args m => "call" :: x :: d :: numS m :: args.map Ex.text
  | .when e => ["when", e.text]
  | .turn e => ["turn", e.text]
def Ln.line (l : Ln) : Str := Txt.join " " l.words
/-- a word's signs -/
def Wd (w : Str) : Prop := w.length ≤ 141 ∧ ∀ c ∈ tl w, 40 ≤ c ∧ c ≤ 122
theorem wd_nm {k : Nat} {x : Str} (h : Nm k x) (hk : k ≤ 8) : Wd x := ⟨Nat.le_trans h.2.1 (by omega), fun c hc => by have := h.2.2 c hc; omega⟩
theorem wd_ex {e : Ex} (h : ExOk 4 e) : Wd e.text := ⟨text_len4 h, text_sg h⟩
theorem wd_num {n : Nat} (h : n ≤ 99) : Wd (numS n) := ⟨by
  have h1 := num_len (n := n) (by omega)
  rw [len_tl, tl_numS]
  omega, fun c hc => by
  rw [tl_numS] at hc
  have := num_sg hc
  omega⟩
theorem wd_w : Wd "deed" ∧ Wd "give" ∧ Wd "else" ∧ Wd "end" ∧ Wd "set" ∧ Wd "say" ∧ Wd "call" ∧ Wd "when" ∧ Wd "turn" := by
  unfold Wd
  decide +kernel
theorem words_ok {l : Ln} (h : LnOk l) : ∀ w ∈ l.words, Wd w := by
  obtain ⟨w1, w2, w3, w4, w5, w6, w7, w8, w9⟩ := wd_w
  intro w hw
  cases l with
  | deed n ps =>
    simp only [Ln.words, List.mem_cons] at hw
    rcases hw with rfl | rfl | hw
    · exact w1
    · exact wd_nm h.1 (by decide)
    · exact wd_nm (h.2.2 w hw) (by decide)
  | give e =>
    simp only [Ln.words, List.mem_cons, List.not_mem_nil, or_false] at hw
    rcases hw with rfl | rfl
    · exact w2
    · exact wd_ex h
  | els =>
    simp only [Ln.words, List.mem_cons, List.not_mem_nil, or_false] at hw
    subst hw
    exact w3
  | fin =>
    simp only [Ln.words, List.mem_cons, List.not_mem_nil, or_false] at hw
    subst hw
    exact w4
  | set x e =>
    simp only [Ln.words, List.mem_cons, List.not_mem_nil, or_false] at hw
    rcases hw with rfl | rfl | rfl
    · exact w5
    · exact wd_nm h.1 (by decide)
    · exact wd_ex h.2
  | say e =>
    simp only [Ln.words, List.mem_cons, List.not_mem_nil, or_false] at hw
    rcases hw with rfl | rfl
    · exact w6
    · exact wd_ex h
  | call x d as m =>
    obtain ⟨h1, h2, h3, h4, h5⟩ := h
    simp only [Ln.words, List.mem_cons, List.mem_map] at hw
    rcases hw with rfl | rfl | rfl | rfl | ⟨e, he, rfl⟩
    · exact w7
    · exact wd_nm h1 (by decide)
    · exact wd_nm h2 (by decide)
    · exact wd_num h5
    · exact wd_ex (h4 e he)
  | when e =>
    simp only [Ln.words, List.mem_cons, List.not_mem_nil, or_false] at hw
    rcases hw with rfl | rfl
    · exact w8
    · exact wd_ex h
  | turn e =>
    simp only [Ln.words, List.mem_cons, List.not_mem_nil, or_false] at hw
    rcases hw with rfl | rfl
    · exact w9
    · exact wd_ex h
theorem words_ne (l : Ln) : l.words ≠ [] := by cases l <;> simp [Ln.words]
theorem words_len {l : Ln} (h : LnOk l) : l.words.length ≤ 8 := by
  cases l with
  | deed n ps =>
    have := h.2.1
    simp only [Ln.words, List.length_cons]
    omega
  | call x d as m =>
    have := h.2.2.1
    simp only [Ln.words, List.length_cons, List.length_map]
    omega
  | _ => simp [Ln.words]
/-- sums of lengths -/
theorem sum_le {k : Nat} : ∀ (ws : List Str), (∀ w ∈ ws, w.length ≤ k) → (ws.map (·.length)).sum ≤ ws.length * k
  | [], _ => by simp
  | w :: ws, h => by
    have h1 := h w (List.mem_cons_self ..)
    have h2 := sum_le ws fun v hv => h v (List.mem_cons_of_mem _ hv)
    rw [List.map_cons, List.sum_cons, List.length_cons, Nat.add_mul]
    omega
theorem join_len (y : Str) : ∀ ws : List Str, (Str.join y ws).length ≤ (ws.map (·.length)).sum + ws.length * y.length
  | [] => by simp [Str.join, Str.empty, Str.length]
  | [x] => by
    show x.length ≤ _
    simp
  | x :: z :: r => by
    have ih := join_len y (z :: r)
    show (x ++ y ++ Str.join y (z :: r)).length ≤ _
    have e : (x ++ y ++ Str.join y (z :: r)).length = x.length + y.length + (Str.join y (z :: r)).length := by
      rw [len_tl, tl_append, tl_append, List.length_append, List.length_append, ← len_tl, ← len_tl, ← len_tl]
    rw [e]
    simp only [List.map_cons, List.sum_cons, List.length_cons, Nat.add_mul] at *
    omega
theorem line_len {l : Ln} (h : LnOk l) : l.line.length ≤ 1200 := by
  unfold Ln.line
  rw [join_eq]
  have h1 := join_len " " l.words
  have h2 := sum_le l.words fun w hw => (words_ok h w hw).1
  have h3 := words_len h
  have h4 : (" " : Str).length = 1 := by decide +kernel
  rw [h4] at h1
  omega
theorem line_split {l : Ln} (h : LnOk l) : Txt.split l.line " " = l.words :=
  split_join tl_blank (by decide +kernel) (words_ne l) fun w hw z => by have := (words_ok h w hw).2 32 z; omega
theorem joinL_sg {S : List Nat} {P : Nat → Prop} (hS : ∀ c ∈ S, P c) : ∀ (ps : List (List Nat)), (∀ p ∈ ps, ∀ c ∈ p, P c) → ∀ c ∈ joinL S ps, P c
  | [], _, c, hc => by cases hc
  | [p], h, c, hc => h p (List.mem_cons_self ..) c hc
  | p :: q :: r, h, c, hc => by
    have hc' : c ∈ p ++ (S ++ joinL S (q :: r)) := hc
    simp only [List.mem_append] at hc'
    rcases hc' with hc | hc | hc
    · exact h p (List.mem_cons_self ..) c hc
    · exact hS c hc
    · exact joinL_sg hS (q :: r) (fun z hz => h z (List.mem_cons_of_mem _ hz)) c hc
theorem line_sg {l : Ln} (h : LnOk l) : ∀ c ∈ tl l.line, c ≠ 10 := by
  unfold Ln.line
  rw [join_eq, tl_join, tl_blank]
  refine joinL_sg (P := fun c => c ≠ 10) (fun c hc => ?_) _ fun p hp c hc => ?_
  · have : c = 32 := by simpa using hc
    omega
  · obtain ⟨w, hw, rfl⟩ := List.mem_map.mp hp
    have := (words_ok h w hw).2 c hc
    omega
def textOf (ls : List Ln) : Str := Txt.join "\n" (ls.map Ln.line)
theorem text_split {ls : List Ln} (hne : ls ≠ []) (h : ∀ l ∈ ls, LnOk l) : Txt.split (textOf ls) "\n" = ls.map Ln.line :=
  split_join tl_line (by decide +kernel) (fun e => hne (List.map_eq_nil_iff.mp e)) fun p hp z => by
    obtain ⟨l, hl, rfl⟩ := List.mem_map.mp hp
    exact line_sg (h l hl) 10 z rfl
theorem lines_sum {ls : List Ln} (h : ∀ l ∈ ls, LnOk l) : ((ls.map Ln.line).map (·.length)).sum ≤ ls.length * 1200 := by
  have := sum_le (k := 1200) (ls.map Ln.line) fun w hw => by
    obtain ⟨l, hl, rfl⟩ := List.mem_map.mp hw
    exact line_len (h l hl)
  rw [List.length_map] at this
  exact this

/-! ### how many lines -/
mutual
theorem lns_few : ∀ r : Rw, r.lns.length ≤ 3 * r.cnt
  | .set _ _ => by simp [Rw.lns, Rw.cnt]
  | .say _ => by simp [Rw.lns, Rw.cnt]
  | .call _ _ _ _ => by simp [Rw.lns, Rw.cnt]
  | .when e rs os => by
    have h1 := lnsRs_few rs
    have h2 := lnsRs_few os
    simp only [Rw.lns, Rw.cnt, List.length_cons, List.length_append, List.length_nil]
    omega
  | .turn e rs => by
    have h1 := lnsRs_few rs
    simp only [Rw.lns, Rw.cnt, List.length_cons, List.length_append, List.length_nil]
    omega
theorem lnsRs_few : ∀ rs : List Rw, (lnsRs rs).length ≤ 3 * cntRs rs
  | [] => by simp [lnsRs, cntRs]
  | r :: rs => by
    have h1 := lns_few r
    have h2 := lnsRs_few rs
    simp only [lnsRs, cntRs, List.length_append]
    omega
end
theorem dlns_few {d : Dd} (h : DdOk d) : d.lns.length ≤ 62 := by
  have h1 := lnsRs_few d.rows
  have h2 := h.2.2.2.2.2.1
  simp only [Dd.lns, List.length_cons, List.length_append, List.length_nil]
  omega
theorem lnsB_few : ∀ B : Bk, (∀ d ∈ B, DdOk d) → (lnsB B).length ≤ 62 * B.length
  | [], _ => by simp [lnsB]
  | d :: B, h => by
    have h1 := dlns_few (h d (List.mem_cons_self ..))
    have h2 := lnsB_few B fun x hx => h x (List.mem_cons_of_mem _ hx)
    simp only [lnsB, List.length_append, List.length_cons]
    omega
/-- the book's text can be made -/
theorem bk_room {B : Bk} (h : ∀ d ∈ B, DdOk d) (h8 : B.length ≤ 8) : (((lnsB B).map Ln.line).map (·.length)).sum + ((lnsB B).map Ln.line).length * ("\n" : Str).length ≤ 700000 := by
  have h1 := lines_sum (lnsBOk B h)
  have h2 := lnsB_few B h
  have h4 : ("\n" : Str).length = 1 := by decide +kernel
  rw [h4, List.length_map]
  omega
theorem bk_len {B : Bk} (h : ∀ d ∈ B, DdOk d) (h8 : B.length ≤ 8) : (textOf (lnsB B)).length ≤ 700000 := by
  unfold textOf
  rw [join_eq]
  exact Nat.le_trans (join_len "\n" _) (bk_room h h8)
theorem lnsB_ne {B : Bk} (h : B ≠ []) : lnsB B ≠ [] := by
  cases B with
  | nil => exact absurd rfl h
  | cons d B => simp [lnsB, Dd.lns]

/-! ### the lines as the writers glue them -/
theorem join2 (a b : Str) : Txt.join " " [a, b] = a ++ (" " : Str) ++ b := by
  rw [join_eq]
  rfl
theorem join3 (a b c : Str) : Txt.join " " [a, b, c] = a ++ (" " : Str) ++ (b ++ (" " : Str) ++ c) := by
  rw [join_eq]
  rfl
theorem s_app {a b : Str} {c : Str} (h : tl a ++ tl b = tl c) : a ++ b = c := app_tl h
theorem line_set (x : Str) (e : Ex) : (("set " : Str) ++ x ++ (" " : Str)) ++ e.text = (Ln.set x e).line := by
  show _ = Txt.join " " ["set", x, e.text]
  rw [join3]
  refine ext_tl ?_
  have e1 : tl ("set " : Str) = tl ("set" : Str) ++ tl (" " : Str) := by decide +kernel
  simp only [tl_append, e1, List.append_assoc]
theorem line_say (e : Ex) : ("say " : Str) ++ e.text = (Ln.say e).line := by
  show _ = Txt.join " " ["say", e.text]
  rw [join2]
  refine ext_tl ?_
  have e1 : tl ("say " : Str) = tl ("say" : Str) ++ tl (" " : Str) := by decide +kernel
  simp only [tl_append, e1]
theorem line_give (e : Ex) : ("give " : Str) ++ e.text = (Ln.give e).line := by
  show _ = Txt.join " " ["give", e.text]
  rw [join2]
  refine ext_tl ?_
  have e1 : tl ("give " : Str) = tl ("give" : Str) ++ tl (" " : Str) := by decide +kernel
  simp only [tl_append, e1]
theorem line_when (e : Ex) : ("when" : Str) ++ (" " : Str) ++ e.text = (Ln.when e).line := (join2 _ _).symm
theorem line_turn (e : Ex) : ("turn" : Str) ++ (" " : Str) ++ e.text = (Ln.turn e).line := (join2 _ _).symm
theorem line_els : Ln.els.line = ("else" : Str) := by
  unfold Ln.line
  rw [join_eq]
  rfl
theorem line_fin : Ln.fin.line = ("end" : Str) := by
  unfold Ln.line
  rw [join_eq]
  rfl

/-! ### words and numbers as the reader tells them apart -/
def isWord (z : Str) (m : Int) : Bool := decide (1 ≤ (z.length : Int)) && (decide ((z.length : Int) ≤ m) && (tl z).all fun c => decide (c ∈ tl SMALL))
theorem isWord_nm {k : Nat} {x : Str} (h : Nm k x) : isWord x k = true := by
  obtain ⟨h1, h2, h3⟩ := h
  unfold isWord
  rw [decide_eq_true (by omega), decide_eq_true (by omega), Bool.true_and, Bool.true_and, List.all_eq_true]
  intro c hc
  exact decide_eq_true (mem_small.mpr (h3 c hc))
theorem isWord_num (n : Nat) (m : Int) : isWord (numS n) m = false := by
  cases e : isWord (numS n) m with
  | false => rfl
  | true =>
    unfold isWord at e
    simp only [Bool.and_eq_true] at e
    have h3 := e.2.2
    rw [tl_numS, List.all_eq_true] at h3
    cases q : numL n with
    | nil => exact absurd q (numL_ne n)
    | cons c r =>
      have hc : c ∈ numL n := by rw [q]; exact List.mem_cons_self ..
      have h4 := mem_small.mp (of_decide_eq_true (h3 c hc))
      have h5 := num_sg hc
      omega
/-- a number's first sign is 0 only in 0 -/
theorem num_head (n : Nat) : ∀ r : List Nat, numL n = 48 :: r → n = 0 := by
  induction n using Nat.strongRecOn with
  | _ n ih =>
    intro r h
    by_cases h10 : n < 10
    · rw [numL_lt h10] at h
      injection h with h1 h2
      omega
    · rw [numL_step (by omega)] at h
      cases q : numL (n / 10) with
      | nil => exact absurd q (numL_ne _)
      | cons c s =>
        rw [q] at h
        injection h with h1 h2
        subst h1
        have := ih (n / 10) (by omega) s q
        omega
theorem numS_zero : numS 0 = ("0" : Str) := by decide +kernel

/-! ### pieces of a word -/
theorem cut_mid {z : Str} {p q r : List Nat} (h : tl z = p ++ (q ++ r)) : cutS z (some ((p.length : Nat) : Int)) (some (((p.length + q.length : Nat)) : Int)) = ⟨q.toArray⟩ := by
  refine ext_tl ?_
  have hl : z.length = p.length + (q.length + r.length) := by rw [len_tl, h, List.length_append, List.length_append]
  have e1 : HT.sIx z.length 0 (some ((p.length : Nat) : Int)) = p.length := by
    unfold HT.sIx
    simp only
    rw [if_neg (by omega)]
    omega
  have e2 : HT.sIx z.length z.length (some (((p.length + q.length : Nat)) : Int)) = p.length + q.length := by
    unfold HT.sIx
    simp only
    rw [if_neg (by omega)]
    omega
  unfold cutS
  rw [e1, e2]
  show ((tl z).drop p.length).take (p.length + q.length - p.length) = q
  rw [h, List.drop_left, Nat.add_sub_cancel_left, List.take_left]
/-- one sign, or none at the end -/
theorem cut_one {z : Str} {p : List Nat} {c : Nat} {r : List Nat} (h : tl z = p ++ (c :: r)) : cutS z (some ((p.length : Nat) : Int)) (some ((p.length : Nat) + 1 : Int)) = ⟨#[c]⟩ := by
  have e := cut_mid (z := z) (p := p) (q := [c]) (r := r) (by rw [h]; rfl)
  exact e
theorem at_mid {z : Str} {p : List Nat} {c : Nat} {r : List Nat} (h : tl z = p ++ (c :: r)) : (tl z)[p.length]? = some c := by
  rw [h, List.getElem?_append_right (Nat.le_refl _), Nat.sub_self]
  rfl
theorem mk_eq {x : Str} {l : List Nat} (h : tl x = l) : (⟨l.toArray⟩ : Str) = x := by
  subst h
  exact mk_tl x
end Cf


set_option Elab.async false
set_option linter.all false
set_option autoImplicit false
set_option maxRecDepth 100000
set_option maxHeartbeats 2000000
/-! The heap relations, and how a def of the text is called. -/
namespace Cf
open PySem PySem.Spec PyProof.Rows L2

/-! ### data in the heap: tuples of texts and whole numbers -/
mutual
inductive At (H : Hp) : V → PyData → Prop where
  | int (i : Int) : At H (.int i) (.int i)
  | str (x : Str) : At H (.str x) (.str x)
  | tup {a : Addr} {xs : List V} {ds : List PyData} : H a = some (.tup xs) → Ats H xs ds → At H (.ref a) (.tuple ds)
inductive Ats (H : Hp) : List V → List PyData → Prop where
  | nil : Ats H [] []
  | cons {v : V} {vs : List V} {d : PyData} {ds : List PyData} : At H v d → Ats H vs ds → Ats H (v :: vs) (d :: ds)
end
theorem At.inv {H : Hp} {v : V} {ds : List PyData} (h : At H v (.tuple ds)) : ∃ a xs, v = .ref a ∧ H a = some (.tup xs) ∧ Ats H xs ds := by
  cases h with
  | tup h1 h2 => exact ⟨_, _, rfl, h1, h2⟩
theorem At.ofStr {H : Hp} {v : V} {x : Str} (h : At H v (.str x)) : v = .str x := by
  cases h
  rfl
theorem At.ofInt {H : Hp} {v : V} {i : Int} (h : At H v (.int i)) : v = .int i := by
  cases h
  rfl
theorem Ats.inv {H : Hp} {vs : List V} {d : PyData} {ds : List PyData} (h : Ats H vs (d :: ds)) : ∃ v r, vs = v :: r ∧ At H v d ∧ Ats H r ds := by
  cases h with
  | cons h1 h2 => exact ⟨_, _, rfl, h1, h2⟩
theorem Ats.inv0 {H : Hp} {vs : List V} (h : Ats H vs []) : vs = [] := by
  cases h
  rfl
theorem Ats.len {H : Hp} : ∀ {vs : List V} {ds : List PyData}, Ats H vs ds → vs.length = ds.length
  | [], _, h => by
    cases h
    rfl
  | v :: vs, _, h => by
    cases h with
    | cons h1 h2 => rw [List.length_cons, List.length_cons, h2.len]
theorem Ats.get {H : Hp} : ∀ {vs : List V} {ds : List PyData} {i : Nat} {d : PyData}, Ats H vs ds → ds[i]? = some d → ∃ v, vs[i]? = some v ∧ At H v d
  | [], _, i, d, h, e => by
    cases h
    simp at e
  | v :: vs, _, i, d, h, e => by
    cases h with
    | cons h1 h2 =>
      cases i with
      | zero =>
        have e' : _ = d := Option.some.inj (by simpa using e)
        subst e'
        exact ⟨v, rfl, h1⟩
      | succ i => exact h2.get (i := i) (by simpa using e)
theorem Ats.getV {H : Hp} : ∀ {vs : List V} {ds : List PyData} {i : Nat} {v : V}, Ats H vs ds → vs[i]? = some v → ∃ d, ds[i]? = some d ∧ At H v d
  | [], _, i, v, h, e => by simp at e
  | u :: vs, _, i, v, h, e => by
    cases h with
    | cons h1 h2 =>
      cases i with
      | zero =>
        have e' : u = v := Option.some.inj (by simpa using e)
        subst e'
        exact ⟨_, rfl, h1⟩
      | succ i => exact h2.getV (i := i) (by simpa using e)
theorem Ats.app {H : Hp} : ∀ {xs ys : List V} {ds es : List PyData}, Ats H xs ds → Ats H ys es → Ats H (xs ++ ys) (ds ++ es)
  | [], _, _, _, h, h' => by
    cases h
    exact h'
  | v :: vs, _, _, _, h, h' => by
    cases h with
    | cons h1 h2 => exact .cons h1 (h2.app h')
theorem Ats.snoc {H : Hp} {xs : List V} {ds : List PyData} {v : V} {d : PyData} (h : Ats H xs ds) (h' : At H v d) : Ats H (xs ++ [v]) (ds ++ [d]) := h.app (.cons h' .nil)
theorem Ats.strs {H : Hp} : ∀ {xs : List Str} {vs : List V}, Ats H vs (xs.map PyData.str) → vs = xs.map V.str
  | [], _, h => h.inv0
  | x :: xs, _, h => by
    obtain ⟨v, r, rfl, h1, h2⟩ := Ats.inv (show Ats H _ (PyData.str x :: xs.map PyData.str) from h)
    rw [h1.ofStr, h2.strs]
    rfl
theorem Ats.ofStrs {H : Hp} : ∀ (xs : List Str), Ats H (xs.map V.str) (xs.map PyData.str)
  | [] => .nil
  | x :: xs => .cons (.str x) (Ats.ofStrs xs)

/-- every tuple stays -/
def Keep (H H' : Hp) : Prop := ∀ b xs, H b = some (.tup xs) → H' b = some (.tup xs)
theorem Keep.refl (H : Hp) : Keep H H := fun _ _ h => h
theorem Keep.trans {H H1 H2 : Hp} (a : Keep H H1) (b : Keep H1 H2) : Keep H H2 := fun c xs h => b c xs (a c xs h)
theorem Keep.new {H : Hp} {p : Addr} {o : HO} (h : H p = none) : Keep H (upd H p o) := fun b xs e => by
  rw [upd_ne (ne_of_none e h)]
  exact e
theorem Keep.wr {H : Hp} {p : Addr} {o o' : HO} (h : H p = some o) (hn : ∀ xs, o ≠ .tup xs) : Keep H (upd H p o') := fun b xs e => by
  rw [upd_ne (ne_of e h fun z => hn xs z.symm)]
  exact e
theorem _root_.L2.Same.keep {H H' : Hp} (s : Same H H') : Keep H H' := fun b xs h => s b _ h
mutual
theorem At.mono {H H' : Hp} (k : Keep H H') : ∀ {d : PyData} {v : V}, At H v d → At H' v d
  | _, _, .int i => .int i
  | _, _, .str x => .str x
  | _, _, .tup h1 h2 => .tup (k _ _ h1) (Ats.mono k h2)
theorem Ats.mono {H H' : Hp} (k : Keep H H') : ∀ {ds : List PyData} {vs : List V}, Ats H vs ds → Ats H' vs ds
  | _, _, .nil => .nil
  | _, _, .cons h1 h2 => .cons (At.mono k h1) (Ats.mono k h2)
end
/- as the data of the layer -/
mutual
theorem At.dp {K : PySem.W.Frag} {H : Hp} : ∀ {d : PyData} {v : V}, At H v d → Dp K H v d
  | _, _, .int i => .int i
  | _, _, .str x => .str x
  | _, _, .tup h1 h2 => .tup (SqT.of h1) (Ats.dp h2)
theorem Ats.dp {K : PySem.W.Frag} {H : Hp} : ∀ {ds : List PyData} {vs : List V}, Ats H vs ds → DpAll K H vs ds
  | _, _, .nil => .nil
  | _, _, .cons h1 h2 => .cons (At.dp h1) (Ats.dp h2)
end
theorem at_new {H : Hp} {p : Addr} {xs : List V} {ds : List PyData} (hp : H p = none) (h : Ats H xs ds) : At (upd H p (.tup xs)) (.ref p) (.tuple ds) :=
  .tup upd_same (h.mono (Keep.new hp))
theorem same_upd {H : Hp} {p : Addr} {o : HO} (h : H p = none) : Same H (upd H p o) := fun b x e => by
  rw [upd_ne (ne_of_none e h)]
  exact e

/-! ### frames: all but some addresses stays -/
def Fr (S : List Addr) (H H' : Hp) : Prop := ∀ b o, H b = some o → b ∉ S → H' b = some o
theorem Fr.refl (S : List Addr) (H : Hp) : Fr S H H := fun _ _ h _ => h
theorem Fr.trans {S : List Addr} {H H1 H2 : Hp} (a : Fr S H H1) (b : Fr S H1 H2) : Fr S H H2 := fun c o h hn => b c o (a c o h hn) hn
theorem _root_.L2.Same.fr {S : List Addr} {H H' : Hp} (s : Same H H') : Fr S H H' := fun b o h _ => s b o h
theorem Fr.mono {S S' : List Addr} {H H' : Hp} (f : Fr S H H') (h : ∀ a ∈ S, a ∈ S') : Fr S' H H' := fun b o e hn => f b o e fun z => hn (h b z)
theorem Fr.wr {S : List Addr} {H : Hp} {p : Addr} {o : HO} (h : p ∈ S) : Fr S H (upd H p o) := fun b u e hn => by
  rw [upd_ne (fun z => hn (by rw [z]; exact h))]
  exact e
theorem Fr.new {S : List Addr} {H : Hp} {p : Addr} {o : HO} (h : H p = none) : Fr S H (upd H p o) := (same_upd h).fr
/-- what is new since H may change -/
theorem Fr.mut {S : List Addr} {H H' : Hp} {p : Addr} {o : HO} (f : Fr S H H') (h : H p = none) : Fr S H (upd H' p o) := fun b u e hn => by
  rw [upd_ne (ne_of_none e h)]
  exact f b u e hn
theorem _root_.L2.Same.mut {H H' : Hp} {p : Addr} {o : HO} (s : Same H H') (h : H p = none) : Same H (upd H' p o) := fun b u e => by
  rw [upd_ne (ne_of_none e h)]
  exact s b u e
/-- what was not there ahead of a frame was not there before -/
theorem Fr.free {S : List Addr} {H H' : Hp} {p : Addr} (f : Fr S H H') (hs : ∀ a ∈ S, H a ≠ none → H' a ≠ none) (h : H' p = none) : H p = none := by
  cases e : H p with
  | none => rfl
  | some o =>
    by_cases hp : p ∈ S
    · exact absurd h (hs p hp (by rw [e]; exact fun z => nomatch z))
    · rw [f p o e hp] at h
      cases h
theorem same_free {H H' : Hp} (s : Same H H') {p : Addr} (h : H' p = none) : H p = none := s.free h

/-! ### the text by places -/
def top (i : Nat) : Stmt := PySem.Challenge.pw_callfold_k13_whole_read_back.main.body.getD i (.Pass ⟨0, 0, 0, 0⟩)
/-- a def of the module, under its name -/
def Def (K : PySem.W.Frag) (mg : Str → Option Value) (x : Str) (st : Stmt) : Prop := ∃ f fd, FunD K x x (defArgs st) (defBody st) (defScope st) [] [] f fd ∧ mg x = some (.ref f)
/-- a method of the class at C -/
def Mth (K : PySem.W.Frag) (C : Addr) (m q : Str) (st : Stmt) : Prop := ∃ f fd, FunD K m q (defArgs st) (defBody st) (defScope st) [] [] f fd ∧ Meth K C m f
/-- a def that may be called by its name -/
def Call (P : Program) (w : World) (K : PySem.W.Frag) (mg : Str → Option Value) (base : Heap) (k : Nat) (x : Str) (sp : Sp) : Prop :=
  ∃ (f : Addr) (fd : FuncData) (ps : List Str), FnOk P w K mg base CX0 k f fd ps sp ∧ mg x = some (.ref f) ∧ PySem.W.keepIn K (.ref f) = true ∧ Binds K fd ps []
def CallM (P : Program) (w : World) (K : PySem.W.Frag) (mg : Str → Option Value) (base : Heap) (k : Nat) (C : Addr) (m : Str) (sp : Sp) : Prop :=
  ∃ (f : Addr) (fd : FuncData) (ps : List Str), Cls K C ∧ Meth K C m f ∧ FnOk P w K mg base CX0 k f fd ps sp ∧ Binds K fd ps []
section
variable {P : Program} {w : World} {K : PySem.W.Frag} {mg : Str → Option Value} {base : Heap}
abbrev BindH (x qual : Str) (st : Stmt) (ps : List Str) : Prop :=
  ∀ (kV doc pm : Value) (an : Option Addr) (cdv ct : Value) (us : List Value), us.length = ps.length → bindArgs (PySem.W.fnOf x qual (defArgs st) (defBody st) (defScope st) .none kV doc pm an cdv ct) ⟨us, []⟩ = pure (ps.zip us)
abbrev BodyH (P : Program) (w : World) (K : PySem.W.Frag) (mg : Str → Option Value) (base : Heap) (k : Nat) (qual : Str) (st : Stmt) (f : Addr) (N ps : List Str) (sp : Sp) : Prop :=
  ∀ (cdv : Value) (A : Around) (outer : List Env) (s : Shared) (H : Hp) (vs : List V) (Q : VK) (E : XK), Room k (A.deeper (envOfC qual (defScope st) s.heap.objs.size f cdv)) → sp vs H Q E →
      ∃ t, PSs (cxOf CX0 P w K mg base N qual (defScope st) f cdv A outer s H E).nox (defBody st) t ∧ t { nx := fun _ H' => Q .non H', rt := Q } (start N vs) H
theorem call_mk {x : Str} {st : Stmt} {N ps : List Str} {k : Nat} {sp : Sp} (D : Def K mg x st) (b : BindH x x st ps) (S : FnScope N ps (defScope st)) (len : ∀ vs H Q E, sp vs H Q E → vs.length = ps.length)
    (hbody : ∀ f, BodyH P w K mg base k x st f N ps sp) : Call P w K mg base (k + 1) x sp := by
  obtain ⟨f, fd, F, m⟩ := D
  refine ⟨f, fd, ps, F.ok S len fun cdv A outer s H vs Q E hr h => ?_, m, F.kp, F.bindsN b⟩
  obtain ⟨t, h1, h2⟩ := hbody f cdv A outer s H vs Q E hr h
  exact ⟨t, PSs.nox h1, h2⟩
theorem callM_mk {C : Addr} {m q : Str} {st : Stmt} {N ps : List Str} {k : Nat} {sp : Sp} (c : Cls K C) (D : Mth K C m q st) (b : BindH m q st ps) (S : FnScope N ps (defScope st)) (len : ∀ vs H Q E, sp vs H Q E → vs.length = ps.length)
    (hbody : ∀ f, BodyH P w K mg base k q st f N ps sp) : CallM P w K mg base (k + 1) C m sp := by
  obtain ⟨f, fd, F, me⟩ := D
  refine ⟨f, fd, ps, c, me, F.ok S len fun cdv A outer s H vs Q E hr h => ?_, F.bindsN b⟩
  obtain ⟨t, h1, h2⟩ := hbody f cdv A outer s H vs Q E hr h
  exact ⟨t, PSs.nox h1, h2⟩
/-- nothing is asked of a def at level 0 -/
theorem call_none {x : Str} {st : Stmt} {sp : Sp} {ps : List Str} (D : Def K mg x st) (b : BindH x x st ps) (no : ∀ vs H Q E, ¬ sp vs H Q E) : Call P w K mg base 0 x sp := by
  obtain ⟨f, fd, F, m⟩ := D
  exact ⟨f, fd, ps, ⟨fun vs H Q E h => absurd h (no vs H Q E), fun A outer s H args us vs Q E _ _ _ _ h => absurd h (no vs H Q E)⟩, m, F.kp, F.bindsN b⟩
theorem Call.mono {x : Str} {sp : Sp} {j k : Nat} (c : Call P w K mg base j x sp) (h : j ≤ k) : Call P w K mg base k x sp := by
  obtain ⟨f, fd, ps, F, a, b, d⟩ := c
  exact ⟨f, fd, ps, F.mono h, a, b, d⟩
theorem Call.imp {x : Str} {sp sp' : Sp} {k : Nat} (c : Call P w K mg base k x sp) (h : ∀ vs H Q E, sp' vs H Q E → sp vs H Q E) : Call P w K mg base k x sp' := by
  obtain ⟨f, fd, ps, F, a, b, d⟩ := c
  exact ⟨f, fd, ps, F.imp h, a, b, d⟩
end
section
variable {X : Cx} {k j : Nat} {C : Addr} {x m : Str} {sp : Sp} {p pos apos : Pos} {e o : Expr} {es : List Expr} {ta : TE} {t : TA}
theorem pe_cl (c : Call X.prog X.w X.K X.mg X.base k x sp) (hr : Room j X.A) (ha : PA X (e :: es) t) (hk : k ≤ j := by omega) (hg : Gl X x := by rfl)
    (hdb : (x == ("__debug__" : Str)) = false := by decide) (he : starEach (e :: es) X.env = (false, eval e X.env) :: starEach es X.env := by rfl) (hpl : (backTo pos (starEach es X.env)).any (·.1) = false := by rfl) :
    PE X (.Call (.Name x p) (e :: es) [] pos) (tCall sp [] E0 t) := by
  obtain ⟨f, fd, ps, F, hm, kp, b⟩ := c
  exact pe_call F (hr.mono hk) hg hm kp b .nil pass0 ha hdb he hpl
theorem pe_cm {pl : Sem Bool} (c : CallM X.prog X.w X.K X.mg X.base k C m sp) (hr : Room j X.A) (he : PE X o ta) (ha : PA X (e :: es) t) (hk : k ≤ j := by omega)
    (hst : starEach (e :: es) X.env = (false, eval e X.env) :: starEach es X.env := by rfl) (hpl : (backTo pos (starEach es X.env)).any (·.1) = false := by rfl)
    (ht : eval (.Call (.Attribute o m apos) (e :: es) [] pos) X.env = (do
      let ov ← eval o X.env
      standAt apos.atName
      let (f, first) ← holding [ov] (getMethod ov m pl)
      callWith pos f first (backTo pos (starEach (e :: es) X.env)) (backToKw pos (keywordEach [] X.env))) := by rfl) :
    PE X (.Call (.Attribute o m apos) (e :: es) [] pos) (tMeth C m sp [] E0 ta t) := by
  obtain ⟨f, fd, ps, hc, hm, F, b⟩ := c
  exact pe_meth (pl := pl) he hc hm F (hr.mono hk) b .nil pass0 ha hst hpl ht
theorem pe_cm0 {pl : Sem Bool} (c : CallM X.prog X.w X.K X.mg X.base k C m sp) (hr : Room j X.A) (he : PE X o ta) (hk : k ≤ j := by omega)
    (ht : eval (.Call (.Attribute o m apos) [] [] pos) X.env = (do
      let ov ← eval o X.env
      standAt apos.atName
      let (f, first) ← holding [ov] (getMethod ov m pl)
      callWith pos f first (backTo pos (starEach [] X.env)) (backToKw pos (keywordEach [] X.env))) := by rfl) :
    PE X (.Call (.Attribute o m apos) [] [] pos) (tMeth C m sp [] E0 ta tNil) := by
  obtain ⟨f, fd, ps, hc, hm, F, b⟩ := c
  exact pe_meth0 (pl := pl) he hc hm F (hr.mono hk) b .nil pass0 ht
end
/-- a constant of the module -/
def Con (mg : Str → Option Value) (x : Str) (v : V) : Prop := ∃ u, mg x = some u ∧ RelV v u
theorem pe_k {X : Cx} {x : Str} {v : V} {pos : Pos} (h : Con X.mg x v) (hg : Gl X x := by rfl) (hd : (x == ("__debug__" : Str)) = false := by decide) : PE X (.Name x pos) (tC v) := by
  obtain ⟨u, hm, r⟩ := h
  exact pe_glob hg hm r hd
/-- an if whose test is known -/
theorem ifT {c : Bool} {A B : Prop} (hc : c = true) (h : A) : if c = true then A else B := by
  rw [if_pos hc]
  exact h
theorem ifF {c : Bool} {A B : Prop} (hc : c = false) (h : B) : if c = true then A else B := by
  rw [hc, if_neg Bool.false_ne_true]
  exact h
/-- a list that grows by the next of l -/
theorem snoc_take {α : Type} (f : α → V) {l : List α} {i : Nat} {x : α} (h : l[i]? = some x) {H : Hp} {L : Addr} : upd H L (.lst ((l.take i).map f ++ [f x])) L = some (.lst ((l.take (i + 1)).map f)) := by
  rw [upd_same, List.take_add_one, h]
  simp
theorem sz {n : Nat} (h : n ≤ 1000000) : n ≤ sizeLine := Nat.le_trans h (by decide)
theorem szl {n : Nat} (h : n ≤ 1000000) : n < sizeLine := Nat.lt_of_le_of_lt h (by decide)
theorem szn (n : Nat) {l : List V} (h : l.length = n := by rfl) (h2 : n ≤ 1000000 := by decide) : l.length ≤ sizeLine := by
  rw [h]
  exact sz h2
end Cf


set_option Elab.async false
set_option linter.all false
set_option autoImplicit false
set_option maxRecDepth 100000
set_option maxHeartbeats 2000000
/-! is_word, number_of. -/
namespace Cf
open PySem PySem.Spec PyProof.Rows L2
open TL (numL)
section
variable {P : Program} {w : World} {K : PySem.W.Frag} {mg : Str → Option Value} {base : Heap}
/-! ### is_word(word, most) -/
def spWord : Sp := fun vs H Q _ => ∃ (z : Str) (m : Int), vs = [.str z, .int m] ∧ z.length ≤ 1000 ∧ ∀ H', Same H H' → Q (.bl (isWord z m)) H'
abbrev sWord : Stmt := top 31
theorem scWord : FnScope ["word", "most", "sign"] ["word", "most"] (defScope sWord) := ⟨rfl, rfl, rfl, by decide +kernel, rfl, by decide +kernel, by decide +kernel⟩
structure TxA (mg : Str → Option Value) : Prop where
  len : mg "len" = none
  all : mg "all" = none
  int : mg "int" = none
  str : mg "str" = none
  tuple : mg "tuple" = none
  list : mg "list" = none
  small : Con mg "SMALL" (.str SMALL)
  figs : Con mg "FIGURES" (.str FIGS)
theorem ok_word (T : TxA mg) (D : Def K mg "is_word" sWord) : Call P w K mg base 1 "is_word" spWord := by
  refine call_mk D (fun _ _ _ _ _ _ us hl => match us, hl with | [_, _], _ => rfl) scWord (fun vs H Q E h => ?_) fun f cdv A outer s H vs Q E hr h => ?_
  · obtain ⟨z, m, rfl, _⟩ := h
    rfl
  obtain ⟨z, m, rfl, hz, q⟩ := h
  refine ⟨_, pss_one (ps_ret (pe_and (pe_chain op_le op_le pe_int (pe_callB call_len_str (by rfl) T.len PySem.boot_len (pa_cons (pv 0) pa_nil)) (pv 1))
    (pe_one (pe_callB (cr_all rfl) (by rfl) T.all (by decide +kernel) (pa_cons
      (pe_lc (own := [("sign", 2)]) (g := gName 2) (by rfl) scWord.nd (pi_str (pv 0)) (blkOk_by (own := [("sign", 2)]) (N := ["word", "most", "sign"]) (sc := defScope sWord) (by decide +kernel)) (fun _ _ _ _ _ => pg_name (i := 2) scWord.nd rfl (Or.inl rfl)) (fun _ _ _ _ _ => pts_nil)
        (fun _ _ _ _ _ => pe_cmpR op_in_sign (pv 2) (pe_k T.small) (by rfl))) pa_nil))))), ?_⟩
  -- 1 <= len(word) <= most
  refine ⟨.str z, rfl, z, rfl, sz (by omega), 1, _, rfl, rfl, _, rfl, ?_⟩
  have e0 : isWord z m = (decide (1 ≤ (z.length : Int)) && (decide ((z.length : Int) ≤ m) && (TL.tl z).all fun c => decide (c ∈ TL.tl SMALL))) := rfl
  refine ite2 (fun c1 => ?_) (fun c1 => ?_)
  · refine ⟨.int m, rfl, _, _, rfl, rfl, _, rfl, ?_⟩
    refine ite2 (fun c2 => ?_) (fun c2 => ?_)
    · -- all([sign in SMALL for sign in word])
      refine ⟨.str z, rfl, z, rfl, fun L hL => ?_⟩
      refine lc_it walk_str (fun i H' => Same H H' ∧ H' L = some (.lst (((TL.tl z).take i).map fun c => V.bl (decide (c ∈ TL.tl SMALL))))) ⟨same_upd hL, upd_same⟩ (fun _ _ _ _ => trivial) (fun i x H1 H2 hi p y => ?_) (fun H' p => ?_)
      · obtain ⟨rfl, c, hc, rfl⟩ := y
        have hc' : (TL.tl z)[i]? = some c := by rw [← hc, Array.getElem?_toList]
        refine ⟨rfl, _, rfl, c, SMALL, rfl, rfl, _, p.2, ?_, p.1.mut hL, snoc_take (fun c => V.bl (decide (c ∈ TL.tl SMALL))) hc'⟩
        rw [List.length_map, List.length_take]
        exact szl (by have := TL.len_tl z; omega)
      · have el : (TL.tl z).take z.cps.size = TL.tl z := List.take_of_length_le (by show _ ≤ z.length; rw [TL.len_tl]; exact Nat.le_refl _)
        have p2 := p.2
        rw [el] at p2
        refine ⟨L, (TL.tl z).map fun c => decide (c ∈ TL.tl SMALL), rfl, SqL.of (by rw [p2, List.map_map]; rfl), ?_⟩
        have e : isWord z m = ((TL.tl z).map fun c => decide (c ∈ TL.tl SMALL)).all id := by
          rw [e0, c1, c2, Bool.true_and, Bool.true_and, List.all_map]
          rfl
        rw [← e]
        exact q H' p.1
    · have e : isWord z m = false := by
        rw [e0, Bool.eq_false_iff.mpr c2, Bool.false_and, Bool.and_false]
      rw [← e]
      exact q H (Same.refl H)
  · have e : isWord z m = false := by
      rw [e0, Bool.eq_false_iff.mpr c1, Bool.false_and]
    refine ⟨false, rfl, iteF ?_⟩
    rw [← e]
    exact q H (Same.refl H)
/-! ### number_of(word, most), of a written number -/
def spNum : Sp := fun vs H Q _ => ∃ (n : Nat) (m : Int), vs = [.str (numS n), .int m] ∧ n ≤ 999999 ∧ (n : Int) ≤ m ∧ ∀ H', Same H H' → Q (.int n) H'
abbrev sNum : Stmt := top 32
theorem scNum : FnScope ["word", "most", "sign"] ["word", "most"] (defScope sNum) := ⟨rfl, rfl, rfl, by decide +kernel, rfl, by decide +kernel, by decide +kernel⟩
theorem zero_of {n : Nat} (h : V.str ⟨#[(numL n).headD 0]⟩ = V.str ("0" : Str)) : numS n = ("0" : Str) := by
  have h1 : (⟨#[(numL n).headD 0]⟩ : Str) = ("0" : Str) := V.str.inj h
  have h2 : [(numL n).headD 0] = [48] := (congrArg TL.tl h1).trans (by decide +kernel)
  cases q : numL n with
  | nil => exact absurd q (TL.numL_ne n)
  | cons c r =>
    rw [q] at h2
    injection h2 with h3 _
    have h4 : c = 48 := h3
    subst h4
    rw [num_head n r q]
    exact numS_zero
theorem ok_num (T : TxA mg) (D : Def K mg "number_of" sNum) : Call P w K mg base 1 "number_of" spNum := by
  refine call_mk D (fun _ _ _ _ _ _ us hl => match us, hl with | [_, _], _ => rfl) scNum (fun vs H Q E h => ?_) fun f cdv A outer s H vs Q E hr h => ?_
  · obtain ⟨n, m, rfl, _⟩ := h
    rfl
  obtain ⟨n, m, rfl, hn, hm, q⟩ := h
  refine ⟨_, pss_cons (ps_if (PW.pt (pw_or (pt_not (pt_chain op_le op_le pe_int (pe_callB call_len_str (by rfl) T.len PySem.boot_len (pa_cons (pv 0) pa_nil)) pe_int))
      (pw_or1 (pt_not (pt_val (pe_callB (cr_all rfl) (by rfl) T.all (by decide +kernel) (pa_cons
        (pe_lc (own := [("sign", 2)]) (g := gName 2) (by rfl) scNum.nd (pi_str (pv 0)) (blkOk_by (own := [("sign", 2)]) (N := ["word", "most", "sign"]) (sc := defScope sNum) (by decide +kernel)) (fun _ _ _ _ _ => pg_name (i := 2) scNum.nd rfl (Or.inl rfl)) (fun _ _ _ _ _ => pts_nil)
          (fun _ _ _ _ _ => pe_cmpR op_in_sign (pv 2) (pe_k T.figs) (by rfl))) pa_nil)))))))
      (pss_one (ps_ret pe_non)) pss_nil)
    (pss_cons (ps_if (PW.pt (pw_or (PW.pt (pw_and (pt_cmpR op_eq (pe_ix ix_str (pv 0) pe_int (fun _ _ => rfl)) pe_str (nomark _)) (pw_and1 (pt_cmpR op_ne (pv 0) pe_str (nomark _)))))
      (pw_or1 (pt_cmpR op_gt (pe_callTy call_int_str (by rfl) T.int (by decide +kernel) (pa_cons (pv 0) pa_nil)) (pv 1) (nomark _))))) (pss_one (ps_ret pe_non)) pss_nil)
    (pss_one (ps_ret (pe_callTy call_int_str (by rfl) T.int (by decide +kernel) (pa_cons (pv 0) pa_nil))))), ?_⟩
  have hl : (numS n).length = (numL n).length := by rw [TL.len_tl, tl_numS]
  have h6 := num_len hn
  have h1 := num_pos n
  have hi : intText? (numS n) = some (n : Int) := TL.int_num (by omega)
  -- not 1 <= len(word) <= 6
  refine ⟨.str (numS n), rfl, numS n, rfl, sz (by omega), 1, _, rfl, rfl, _, rfl, ?_⟩
  refine ifT (decide_eq_true (by omega)) ⟨_, _, rfl, rfl, _, rfl, ?_⟩
  refine ifF (by rw [decide_eq_true (show ((numS n).length : Int) ≤ 6 by omega)]; rfl) ?_
  -- not all([sign in FIGURES for sign in word])
  refine ⟨.str (numS n), rfl, numS n, rfl, fun L hL => ?_⟩
  refine lc_it walk_str (fun i H' => Same H H' ∧ H' L = some (.lst (((numL n).take i).map fun c => V.bl (decide (c ∈ TL.tl FIGS))))) ⟨same_upd hL, upd_same⟩ (fun _ _ _ _ => trivial) (fun i x H1 H2 hi p y => ?_) (fun H' p => ?_)
  · obtain ⟨rfl, c, hc, rfl⟩ := y
    have hc' : (numL n)[i]? = some c := by rw [← tl_numS, ← hc, Array.getElem?_toList]
    refine ⟨rfl, _, rfl, c, FIGS, rfl, rfl, _, p.2, ?_, p.1.mut hL, snoc_take (fun c => V.bl (decide (c ∈ TL.tl FIGS))) hc'⟩
    rw [List.length_map, List.length_take]
    exact szl (by omega)
  have el : (numL n).take (numS n).cps.size = numL n := List.take_of_length_le (by show _ ≤ (numS n).length; omega)
  have p2 := p.2
  rw [el] at p2
  refine ⟨L, (numL n).map fun c => decide (c ∈ TL.tl FIGS), rfl, SqL.of (by rw [p2, List.map_map]; rfl), _, rfl, ?_⟩
  have ea : ((numL n).map fun c => decide (c ∈ TL.tl FIGS)).all id = true := by
    rw [List.all_map, List.all_eq_true]
    intro c hc
    exact decide_eq_true (mem_figs.mpr (num_sg hc))
  refine ifF (by rw [ea]; rfl) ?_
  -- word[0] == "0" and word != "0" or int(word) > most
  have h0 : atI (numS n).cps.toList 0 = some ((numL n).headD 0) := by
    show atI (TL.tl (numS n)) ((0 : Nat) : Int) = _
    rw [tl_numS]
    refine atI_nat ?_
    cases e : numL n with
    | nil => exact absurd e (TL.numL_ne n)
    | cons c r => rfl
  refine ⟨_, rfl, _, 0, _, rfl, rfl, sz (by omega), h0, rfl, _, rfl, ?_⟩
  have go : ∀ H2, Same H H2 → Q (.int n) H2 := q
  have fin : (tCB (fun xs H Q => ∃ a n, xs = [.str a] ∧ intText? a = some n ∧ a.length ≤ 640 ∧ Q (.int n) H) (tCons (tVar 0) tNil)) (L2.start ["word", "most", "sign"] [V.str (numS n), V.int m]) H' Q :=
    ⟨_, rfl, _, _, rfl, hi, by omega, q H' p.1⟩
  have rest : (tTest (tOp (rI0 fun i j => .bl (decide (j < i))) (tCB (fun xs H Q => ∃ a n, xs = [.str a] ∧ intText? a = some n ∧ a.length ≤ 640 ∧ Q (.int n) H) (tCons (tVar 0) tNil)) (tVar 1))) (L2.start ["word", "most", "sign"] [V.str (numS n), V.int m]) H' fun b H1 => if b = true then tRet (tC .non) { nx := fun _ H' => Q .non H', rt := Q } (L2.start ["word", "most", "sign"] [V.str (numS n), V.int m]) H1 else (tCB (fun xs H Q => ∃ a n, xs = [.str a] ∧ intText? a = some n ∧ a.length ≤ 640 ∧ Q (.int n) H) (tCons (tVar 0) tNil)) (L2.start ["word", "most", "sign"] [V.str (numS n), V.int m]) H1 Q := by
    refine ⟨_, rfl, _, _, rfl, hi, by omega, _, rfl, _, _, rfl, rfl, _, rfl, ?_⟩
    exact ifF (decide_eq_false (by omega)) fin
  by_cases c0 : V.str ⟨#[(numL n).headD 0]⟩ = V.str ("0" : Str)
  · refine ifT (decide_eq_true c0) ⟨_, rfl, rfl, _, rfl, ?_⟩
    rw [zero_of c0]
    refine ifF (by decide +kernel) ?_
    rw [← zero_of c0]
    exact rest
  · refine ifF (decide_eq_false c0) ?_
    refine ifF rfl ?_
    exact rest
end
end Cf


set_option Elab.async false
set_option linter.all false
set_option autoImplicit false
set_option maxRecDepth 100000
set_option maxHeartbeats 2000000
/-! leaf_from. -/
namespace Cf
open PySem PySem.Spec PyProof.Rows L2
open TL (numL)
section
variable {P : Program} {w : World} {K : PySem.W.Frag} {mg : Str → Option Value} {base : Heap}
theorem mem_al {c : Nat} : c ∈ (SMALL ++ FIGS).cps.toList ↔ Al c := by
  show c ∈ TL.tl (SMALL ++ FIGS) ↔ _
  rw [TL.tl_append, List.mem_append, mem_small, mem_figs]
  rfl
def Leaf (e : Ex) : Prop := (∃ n, e = .num n ∧ n ≤ 999999) ∨ ∃ x, e = .nam x ∧ Nm 4 x
theorem leaf_al {e : Ex} (h : Leaf e) : ∀ c ∈ TL.tl e.text, Al c := by
  intro c hc
  rcases h with ⟨n, rfl, hn⟩ | ⟨x, rfl, hx⟩
  · have hc' : c ∈ numL n := by rw [← tl_numS]; exact hc
    exact .inr (num_sg hc')
  · exact .inl (hx.2.2 c hc)
/-- nothing of a word goes on here -/
def Stop (post : List Nat) : Prop := ∀ c r, post = c :: r → ¬ Al c
def spLeaf : Sp := fun vs H Q _ => ∃ (z : Str) (pre post : List Nat) (e : Ex), vs = [.str z, .int (pre.length : Nat)] ∧ TL.tl z = pre ++ (TL.tl e.text ++ post) ∧ Leaf e ∧ Stop post ∧ z.length ≤ 1000 ∧
  ∀ (H' : Hp) (p : Addr) (v : V), Same H H' → H' p = some (.tup [v, .int ((pre.length + (TL.tl e.text).length : Nat) : Int)]) → At H' v e.enc → Q (.ref p) H'
abbrev sLeaf : Stmt := top 33
theorem scLeaf : FnScope ["word", "at", "past", "value"] ["word", "at"] (defScope sLeaf) := ⟨rfl, rfl, rfl, by decide +kernel, rfl, by decide +kernel, by decide +kernel⟩
theorem ok_leaf (T : TxA mg) (mv : Con mg "MOST_VALUE" (.int 999999)) (D : Def K mg "leaf_from" sLeaf) (CW : Call P w K mg base 1 "is_word" spWord) (CN : Call P w K mg base 1 "number_of" spNum) : Call P w K mg base 2 "leaf_from" spLeaf := by
  refine call_mk D (fun _ _ _ _ _ _ us hl => match us, hl with | [_, _], _ => rfl) scLeaf (fun vs H Q E h => ?_) fun f cdv A outer s H vs Q E hr h => ?_
  · obtain ⟨z, pre, post, e, rfl, _⟩ := h
    rfl
  obtain ⟨z, pre, post, e, rfl, ez, hL, hS, hz, q⟩ := h
  refine ⟨_, pss_cons (ps_set (i := 2) scLeaf.nd rfl (.inl rfl) (pv 1))
    (Evl.pss_cut (ps_while PassesOwn.never (PW.pt (pw_and (pt_cmpR op_lt (pv 2) (pe_callB call_len_str (by rfl) T.len PySem.boot_len (pa_cons (pv 0) pa_nil)) (nomark _))
        (pw_and1 (pt_cmpR op_in_sign (pe_ix ix_str (pv 0) (pv 2) (fun _ _ => rfl)) (pe_op op_add_str (pe_k T.small) (pe_k T.figs)) (by rfl)))))
      (pss_one (ps_set (i := 2) scLeaf.nd rfl (.inl rfl) (pe_op op_add (pv 2) pe_int))))
    (pss_cons (ps_if (pt_val (pe_cl CW hr (pa_cons (pe_slice sl_str (pv 0) (po_some (pv 1)) (po_some (pv 2))) (pa_cons pe_int pa_nil))))
      (pss_one (ps_ret (pe_tup (pa_cons (pe_tup (pa_cons pe_str (pa_cons (pe_slice sl_str (pv 0) (po_some (pv 1)) (po_some (pv 2))) pa_nil))) (pa_cons (pv 2) pa_nil))))) pss_nil)
    (pss_cons (ps_set (i := 3) scLeaf.nd rfl (.inl rfl) (pe_cl CN hr (pa_cons (pe_slice sl_str (pv 0) (po_some (pv 1)) (po_some (pv 2))) (pa_cons (pe_k mv) pa_nil))))
    (pss_cons (ps_if (pt_cmp (pc_isN (pv 3))) (pss_one (ps_ret pe_non)) pss_nil)
    (pss_one (ps_ret (pe_tup (pa_cons (pe_tup (pa_cons pe_str (pa_cons (pv 3) pa_nil))) (pa_cons (pv 2) pa_nil))))))))), ?_⟩
  have hlen : z.length = pre.length + ((TL.tl e.text).length + post.length) := by rw [TL.len_tl, ez, List.length_append, List.length_append]
  -- past = at; the loop
  refine ⟨_, rfl, ?_⟩
  refine ⟨fun σ' H' => σ' = [some (.str z), some (.int (pre.length : Nat)), some (.int ((pre.length + (TL.tl e.text).length : Nat) : Int)), none] ∧ H' = H, ?_, ?_⟩
  · refine ⟨fun m σ H1 => ∃ k : Nat, k ≤ (TL.tl e.text).length ∧ m = (TL.tl e.text).length - k ∧ σ = [some (.str z), some (.int (pre.length : Nat)), some (.int ((pre.length + k : Nat) : Int)), none] ∧ H1 = H, ⟨_, 0, by omega, rfl, rfl, rfl⟩, ?_⟩
    rintro m σ H1 ⟨k, hk, rfl, rfl, rfl⟩
    refine ⟨_, rfl, _, rfl, _, rfl, sz (by omega), _, _, rfl, rfl, _, rfl, ?_⟩
    by_cases hk2 : k < (TL.tl e.text).length
    · -- a sign of the word
      have hc : (TL.tl z)[pre.length + k]? = some ((TL.tl e.text)[k]) := by
        rw [ez, List.getElem?_append_right (by omega), Nat.add_sub_cancel_left, List.getElem?_append_left hk2, List.getElem?_eq_getElem hk2]
      refine ifT (decide_eq_true (by omega)) ⟨_, rfl, _, rfl, _, _, _, rfl, rfl, sz (by omega), atI_nat hc, _, _, rfl, rfl, (by decide +kernel), _, _, rfl, rfl, _, rfl, ?_⟩
      refine ifT (decide_eq_true (mem_al.mpr (leaf_al hL _ (List.getElem_mem hk2)))) ?_
      refine ⟨fun σ' H' => ∃ k' : Nat, k' = k + 1 ∧ σ' = [some (.str z), some (.int (pre.length : Nat)), some (.int ((pre.length + k' : Nat) : Int)), none] ∧ H' = H1, ?_, ?_⟩
      · rintro σ' H' ⟨k', rfl, rfl, rfl⟩
        exact ⟨_, by omega, k + 1, by omega, rfl, rfl, rfl⟩
      · refine ⟨_, rfl, _, _, rfl, rfl, k + 1, rfl, ?_, rfl⟩
        show [some (V.str z), some (V.int (pre.length : Nat)), some (V.int (((pre.length + k : Nat) : Int) + 1)), none] = _
        have e1 : (((pre.length + k : Nat) : Int) + 1) = ((pre.length + (k + 1) : Nat) : Int) := by omega
        rw [e1]
    · -- behind it
      have ek : k = (TL.tl e.text).length := by omega
      subst ek
      cases post with
      | nil =>
        simp only [List.length_nil] at hlen
        refine ifF (decide_eq_false (by omega)) ?_
        exact ifF rfl ⟨rfl, rfl⟩
      | cons c r =>
        simp only [List.length_cons] at hlen
        have hc : (TL.tl z)[pre.length + (TL.tl e.text).length]? = some c := by
          rw [ez, List.getElem?_append_right (by omega), Nat.add_sub_cancel_left, List.getElem?_append_right (by omega), Nat.sub_self]
          rfl
        refine ifT (decide_eq_true (by omega)) ⟨_, rfl, _, rfl, _, _, _, rfl, rfl, sz (by omega), atI_nat hc, _, _, rfl, rfl, (by decide +kernel), _, _, rfl, rfl, _, rfl, ?_⟩
        exact ifF (decide_eq_false fun z => hS c r rfl (mem_al.mp z)) ⟨rfl, rfl⟩
  rintro σ' H' ⟨rfl, rfl⟩
  have ecut : cutS z (some ((pre.length : Nat) : Int)) (some ((pre.length + (TL.tl e.text).length : Nat) : Int)) = e.text := (cut_mid ez).trans (TL.mk_tl _)
  -- is_word(word[at:past], 4)
  refine ⟨_, rfl, _, rfl, _, rfl, _, rfl, _, rfl, z, rfl, sz (by omega), ?_⟩
  rw [ecut]
  refine ⟨e.text, 4, rfl, by rw [TL.len_tl]; omega, fun H1 s1 => ?_⟩
  rcases hL with ⟨n, rfl, hn⟩ | ⟨x, rfl, hx⟩
  · -- a number
    refine ⟨false, congrArg V.bl (isWord_num n 4), ?_⟩
    refine ifF rfl ?_
    refine ⟨_, rfl, _, rfl, _, rfl, _, rfl, _, rfl, z, rfl, sz (by omega), ?_⟩
    rw [ecut]
    refine ⟨n, 999999, rfl, hn, by omega, fun H2 s2 => ?_⟩
    refine ⟨_, rfl, _, rfl, ifF rfl ?_⟩
    refine ⟨_, rfl, szn 2, fun p1 h1 => ⟨_, rfl, szn 2, fun p2 h2 => ?_⟩⟩
    have s3 : Same H' (upd (upd H2 p1 (.tup [.str "number", .int n])) p2 (.tup [.ref p1, .int ((pre.length + (TL.tl (Ex.num n).text).length : Nat) : Int)])) := ((s1.trans s2).trans (same_upd h1)).trans (same_upd h2)
    refine q _ p2 (.ref p1) s3 upd_same ?_
    exact .tup (by rw [upd_ne (ne_of_none upd_same h2)]; exact upd_same) (.cons (.str _) (.cons (.int _) .nil))
  · -- a name
    refine ⟨true, congrArg V.bl (isWord_nm hx), ?_⟩
    refine ifT rfl ?_
    refine ⟨_, rfl, _, rfl, _, rfl, _, rfl, _, rfl, z, rfl, sz (by omega), ?_⟩
    rw [ecut]
    refine ⟨szn 2, fun p1 h1 => ⟨_, rfl, szn 2, fun p2 h2 => ?_⟩⟩
    have s3 : Same H' (upd (upd H1 p1 (.tup [.str "name", .str x])) p2 (.tup [.ref p1, .int ((pre.length + (TL.tl (Ex.nam x).text).length : Nat) : Int)])) := (s1.trans (same_upd h1)).trans (same_upd h2)
    refine q _ p2 (.ref p1) s3 upd_same ?_
    exact .tup (by rw [upd_ne (ne_of_none upd_same h2)]; exact upd_same) (.cons (.str _) (.cons (.str _) .nil))
end
end Cf


set_option Elab.async false
set_option linter.all false
set_option autoImplicit false
set_option maxRecDepth 100000
set_option maxHeartbeats 2000000
/-! expression_from, expression_of. -/
namespace Cf
open PySem PySem.Spec PyProof.Rows L2
open TL (numL)
/-- a dict of the module with text keys -/
def DictC (K : PySem.W.Frag) (w : World) (mg : Str → Option Value) (x : Str) (f g : Op → Str) : Prop :=
  ∃ d es n, mg x = some (.ref d) ∧ KDict K w d es n ∧ ∀ o : Op, ∃ u, PySem.W.nsIn K d (f o) = some (some u) ∧ RelV (.str (g o)) u
structure TxB (K : PySem.W.Frag) (w : World) (mg : Str → Option Value) : Prop where
  mv : Con mg "MOST_VALUE" (.int 999999)
  dp : Con mg "DEEPEST" (.int 5)
  wd : DictC K w mg "WORDS" Op.sign Op.word
  sg : DictC K w mg "SIGNS" Op.word Op.sign
section
variable {P : Program} {w : World} {K : PySem.W.Frag} {mg : Str → Option Value} {base : Heap}
def spEx (n : Nat) : Sp := fun vs H Q _ => ∃ (z : Str) (pre post : List Nat) (e : Ex) (d : Nat) (deep : Int), vs = [.str z, .int (pre.length : Nat), .int deep] ∧ TL.tl z = pre ++ (TL.tl e.text ++ post) ∧ ExOk d e ∧ deep + d = 5 ∧ d < n ∧ Stop post ∧ z.length ≤ 1000 ∧
  ∀ (H' : Hp) (p : Addr) (v : V), Same H H' → H' p = some (.tup [v, .int ((pre.length + (TL.tl e.text).length : Nat) : Int)]) → At H' v e.enc → Q (.ref p) H'
abbrev sEx : Stmt := top 34
theorem scEx : FnScope ["word", "at", "deep", "one", "other"] ["word", "at", "deep"] (defScope sEx) := ⟨rfl, rfl, rfl, by decide +kernel, rfl, by decide +kernel, by decide +kernel⟩
theorem open_mk : ("(" : Str) = ⟨#[40]⟩ := TL.ext_tl tl_open
theorem close_mk : (")" : Str) = ⟨#[41]⟩ := TL.ext_tl tl_close
theorem leaf_head {e : Ex} (h : Leaf e) : ∃ c r, TL.tl e.text = c :: r ∧ Al c := by
  have hp : TL.tl e.text ≠ [] := by
    rcases h with ⟨n, rfl, hn⟩ | ⟨x, rfl, hx⟩
    · show TL.tl (numS n) ≠ []
      rw [tl_numS]
      exact TL.numL_ne n
    · show TL.tl x ≠ []
      intro z
      have := hx.1
      rw [TL.len_tl, z] at this
      exact absurd this (by decide)
  cases q : TL.tl e.text with
  | nil => exact absurd q hp
  | cons c r => exact ⟨c, r, rfl, leaf_al h c (by rw [q]; exact List.mem_cons_self ..)⟩
theorem ex_cases {d : Nat} {e : Ex} (h : ExOk d e) : Leaf e ∨ ∃ o a b d', e = .bin o a b ∧ d = d' + 1 ∧ ExOk d' a ∧ ExOk d' b := by
  cases e with
  | num k =>
    unfold ExOk at h
    exact .inl (.inl ⟨k, rfl, h⟩)
  | nam x =>
    unfold ExOk at h
    exact .inl (.inr ⟨x, rfl, h⟩)
  | bin o a b =>
    cases d with
    | zero =>
      unfold ExOk at h
      exact h.elim
    | succ d =>
      unfold ExOk at h
      exact .inr ⟨o, a, b, d, rfl, rfl, h.1, h.2⟩
theorem ok_ex (T : TxA mg) (B : TxB K w mg) (D : Def K mg "expression_from" sEx) (CL : Call P w K mg base 2 "leaf_from" spLeaf) : ∀ n : Nat, Call P w K mg base (n + 2) "expression_from" (spEx n)
  | 0 => (call_none (ps := ["word", "at", "deep"]) D (fun _ _ _ _ _ _ us hl => match us, hl with | [_, _, _], _ => rfl) fun vs H Q E h => by
      obtain ⟨z, pre, post, e, d, deep, _, _, _, _, hd, _⟩ := h
      omega).mono (by omega)
  | n + 1 => by
    have CE := ok_ex T B D CL n
    refine call_mk D (fun _ _ _ _ _ _ us hl => match us, hl with | [_, _, _], _ => rfl) scEx (fun vs H Q E h => ?_) fun f cdv A outer s H vs Q E hr h => ?_
    · obtain ⟨z, pre, post, e, d, deep, rfl, _⟩ := h
      rfl
    obtain ⟨z, pre, post, e, d, deep, rfl, ez, hE, hd, hdn, hS, hz, q⟩ := h
    obtain ⟨wa, wes, wn, wm, KD, wg⟩ := B.wd
    have cW : Con mg "WORDS" (.ref wa) := ⟨_, wm, rfl⟩
    refine ⟨_, pss_cons (ps_if (pt_cmpR op_gt (pv 2) (pe_k B.dp) (nomark _)) (pss_one (ps_ret pe_non)) pss_nil)
      (pss_cons (ps_if (pt_cmpR op_ne (pe_slice sl_str (pv 0) (po_some (pv 1)) (po_some (pe_op op_add (pv 1) pe_int))) pe_str (nomark _)) (pss_one (ps_ret (pe_cl CL hr (pa_cons (pv 0) (pa_cons (pv 1) pa_nil))))) pss_nil)
      (pss_cons (ps_set (i := 3) scEx.nd rfl (.inl rfl) (pe_cl CE hr (pa_cons (pv 0) (pa_cons (pe_op op_add (pv 1) pe_int) (pa_cons (pe_op op_add (pv 2) pe_int) pa_nil)))))
      (pss_cons (ps_if (PW.pt (pw_or (pt_cmp (pc_isN (pv 3))) (pw_or1 (pt_cmpR (op_notIn_kd KD) (pe_slice sl_str (pv 0) (po_some (pe_ix ix_tup (pv 3) pe_int (fun _ _ => rfl))) (po_some (pe_op op_add (pe_ix ix_tup (pv 3) pe_int (fun _ _ => rfl)) pe_int))) (pe_k cW) (by rfl))))) (pss_one (ps_ret pe_non)) pss_nil)
      (pss_cons (ps_set (i := 4) scEx.nd rfl (.inl rfl) (pe_cl CE hr (pa_cons (pv 0) (pa_cons (pe_op op_add (pe_ix ix_tup (pv 3) pe_int (fun _ _ => rfl)) pe_int) (pa_cons (pe_op op_add (pv 2) pe_int) pa_nil)))))
      (pss_cons (ps_if (PW.pt (pw_or (pt_cmp (pc_isN (pv 4))) (pw_or1 (pt_cmpR op_ne (pe_slice sl_str (pv 0) (po_some (pe_ix ix_tup (pv 4) pe_int (fun _ _ => rfl))) (po_some (pe_op op_add (pe_ix ix_tup (pv 4) pe_int (fun _ _ => rfl)) pe_int))) pe_str (nomark _))))) (pss_one (ps_ret pe_non)) pss_nil)
      (pss_one (ps_ret (pe_tup (pa_cons (pe_tup (pa_cons (pe_ix ix_kdict (pe_k cW) (pe_ix ix_str (pv 0) (pe_ix ix_tup (pv 3) pe_int (fun _ _ => rfl)) (fun _ _ => rfl)) (fun _ _ => rfl)) (pa_cons (pe_ix ix_tup (pv 3) pe_int (fun _ _ => rfl)) (pa_cons (pe_ix ix_tup (pv 4) pe_int (fun _ _ => rfl)) pa_nil))))
        (pa_cons (pe_op op_add (pe_ix ix_tup (pv 4) pe_int (fun _ _ => rfl)) pe_int) pa_nil)))))))))), ?_⟩
    have hlen : z.length = pre.length + ((TL.tl e.text).length + post.length) := by rw [TL.len_tl, ez, List.length_append, List.length_append]
    -- if deep > DEEPEST
    refine ⟨_, rfl, _, _, rfl, rfl, _, rfl, ifF (decide_eq_false (by omega)) ?_⟩
    -- if word[at:at + 1] != "("
    rcases ex_cases hE with hL | ⟨o, a, b, d', rfl, rfl, hA, hB⟩
    · -- a leaf
      obtain ⟨c, r, ec, hc⟩ := leaf_head hL
      have ecut : cutS z (some ((pre.length : Nat) : Int)) (some ((pre.length : Nat) + 1 : Int)) = ⟨#[c]⟩ := cut_one (r := r ++ post) (by rw [ez, ec]; rfl)
      refine ⟨_, rfl, _, rfl, _, rfl, _, rfl, _, _, rfl, rfl, _, rfl, z, rfl, sz (by omega), rfl, _, rfl, ?_⟩
      rw [ecut, open_mk]
      have ne : ¬ V.str (⟨#[c]⟩ : Str) = V.str ⟨#[40]⟩ := fun z => by
        have z1 : [c] = [40] := congrArg TL.tl (V.str.inj z)
        have z2 : c = 40 := by injection z1
        subst z2
        unfold Al at hc
        omega
      refine ifT (by rw [decide_eq_false ne]; rfl) ?_
      exact ⟨_, rfl, _, rfl, z, pre, post, e, rfl, ez, hL, hS, hz, q⟩
    · -- a sign between two
      have ez1 : TL.tl z = pre ++ (40 :: (TL.tl a.text ++ (o.code :: (TL.tl b.text ++ (41 :: post))))) := by
        rw [ez, tl_bin]
        simp
      have ecut : cutS z (some ((pre.length : Nat) : Int)) (some ((pre.length : Nat) + 1 : Int)) = ⟨#[40]⟩ := cut_one ez1
      refine ⟨_, rfl, _, rfl, _, rfl, _, rfl, _, _, rfl, rfl, _, rfl, z, rfl, sz (by omega), rfl, _, rfl, ?_⟩
      rw [ecut, open_mk]
      refine ifF (by rw [decide_eq_true rfl]; rfl) ?_
      -- one = expression_from(word, at + 1, deep + 1)
      refine ⟨_, rfl, _, rfl, _, _, rfl, rfl, _, rfl, _, _, rfl, rfl, z, pre ++ [40], o.code :: (TL.tl b.text ++ (41 :: post)), a, d', deep + 1, ?_, by rw [ez1]; simp, hA, by omega, by omega, ?_, hz, fun H1 p1 v1 s1 e1 A1 => ?_⟩
      · rw [List.length_append]
        rfl
      · intro c r hc
        injection hc with hc1 _
        subst hc1
        exact code_al o
      -- one is None or word[one[1]:one[1] + 1] not in WORDS
      have k1 : ((pre ++ [40]).length + (TL.tl a.text).length : Nat) = (pre ++ 40 :: TL.tl a.text).length := by
        simp only [List.length_append, List.length_cons, List.length_nil]
        omega
      rw [k1] at e1
      have ez2 : TL.tl z = (pre ++ 40 :: TL.tl a.text) ++ (o.code :: (TL.tl b.text ++ (41 :: post))) := by rw [ez1]; simp
      have ecut2 := cut_one ez2
      refine ⟨_, rfl, _, rfl, ifF rfl ?_⟩
      have ix1 : atI [v1, V.int (((pre ++ 40 :: TL.tl a.text).length : Nat) : Int)] 1 = some (V.int (((pre ++ 40 :: TL.tl a.text).length : Nat) : Int)) := atI_nat (j := 1) rfl
      have ix0 : atI [v1, V.int (((pre ++ 40 :: TL.tl a.text).length : Nat) : Int)] 0 = some v1 := atI_nat (j := 0) rfl
      refine ⟨_, rfl, _, rfl, p1, _, _, _, rfl, rfl, SqT.of e1, ix1, _, rfl, _, rfl, p1, _, _, _, rfl, rfl, SqT.of e1, ix1, _, _, rfl, rfl, _, rfl, z, rfl, sz (by omega), ?_⟩
      rw [ecut2, ← sign_mk o]
      obtain ⟨u, wu, ru⟩ := wg o
      refine ⟨_, some u, rfl, rfl, wu, _, rfl, ifF rfl ?_⟩
      -- other = expression_from(word, one[1] + 1, deep + 1)
      refine ⟨_, rfl, _, rfl, p1, _, _, _, rfl, rfl, SqT.of e1, ix1, _, _, rfl, rfl, _, rfl, _, _, rfl, rfl, z, (pre ++ 40 :: TL.tl a.text) ++ [o.code], 41 :: post, b, d', deep + 1, ?_, by rw [ez2]; simp, hB, by omega, by omega, ?_, hz, fun H2 p2 v2 s2 e2 A2 => ?_⟩
      · have k : (((pre ++ 40 :: TL.tl a.text).length : Nat) : Int) + 1 = ((((pre ++ 40 :: TL.tl a.text) ++ [o.code]).length : Nat) : Int) := by
          rw [List.length_append (bs := [o.code])]
          rfl
        show [V.str z, V.int ((((pre ++ 40 :: TL.tl a.text).length : Nat) : Int) + 1), V.int (deep + 1)] = _
        rw [k]
      · intro c r hc
        injection hc with hc1 _
        subst hc1
        unfold Al
        omega
      have k2 : (((pre ++ 40 :: TL.tl a.text) ++ [o.code]).length + (TL.tl b.text).length : Nat) = ((pre ++ 40 :: TL.tl a.text) ++ o.code :: TL.tl b.text).length := by
        simp only [List.length_append, List.length_cons, List.length_nil]
        omega
      rw [k2] at e2
      have ez3 : TL.tl z = ((pre ++ 40 :: TL.tl a.text) ++ o.code :: TL.tl b.text) ++ (41 :: post) := by rw [ez2]; simp
      have ecut3 := cut_one ez3
      have iy1 : atI [v2, V.int ((((pre ++ 40 :: TL.tl a.text) ++ o.code :: TL.tl b.text).length : Nat) : Int)] 1 = some (V.int ((((pre ++ 40 :: TL.tl a.text) ++ o.code :: TL.tl b.text).length : Nat) : Int)) := atI_nat (j := 1) rfl
      have iy0 : atI [v2, V.int ((((pre ++ 40 :: TL.tl a.text) ++ o.code :: TL.tl b.text).length : Nat) : Int)] 0 = some v2 := atI_nat (j := 0) rfl
      -- other is None or word[other[1]:other[1] + 1] != ")"
      refine ⟨_, rfl, _, rfl, ifF rfl ?_⟩
      refine ⟨_, rfl, _, rfl, p2, _, _, _, rfl, rfl, SqT.of e2, iy1, _, rfl, _, rfl, p2, _, _, _, rfl, rfl, SqT.of e2, iy1, _, _, rfl, rfl, _, rfl, z, rfl, sz (by omega), rfl, _, rfl, ?_⟩
      rw [ecut3, close_mk]
      refine ifF (by rw [decide_eq_true rfl]; rfl) ?_
      -- the answer
      have e1' : H2 p1 = _ := s2 _ _ e1
      refine ⟨_, rfl, _, rfl, p1, _, _, _, rfl, rfl, SqT.of e1', ix1, z, _, _, rfl, rfl, sz (by omega), atI_nat (at_mid ez2), wa, _, .str o.word, rfl, by rw [← sign_mk o], ⟨_, _, u, KD.at_, KD.lit, wu, ru⟩, ?_⟩
      refine ⟨_, rfl, p1, _, _, _, rfl, rfl, SqT.of e1', ix0, _, rfl, p2, _, _, _, rfl, rfl, SqT.of e2, iy0, szn 3, fun p3 h3 => ?_⟩
      have s3 := same_upd (o := .tup [V.str o.word, v1, v2]) h3
      refine ⟨_, rfl, p2, _, _, _, rfl, rfl, SqT.of (s3 _ _ e2), iy1, _, _, rfl, rfl, szn 2, fun p4 h4 => ?_⟩
      have s4 := fun o => same_upd (o := o) h4
      refine q _ p4 (.ref p3) (((s1.trans s2).trans s3).trans (s4 _)) ?_ ?_
      · rw [upd_same]
        have k3 : ((((pre ++ 40 :: TL.tl a.text) ++ o.code :: TL.tl b.text).length : Nat) : Int) + 1 = ((pre.length + (TL.tl (Ex.bin o a b).text).length : Nat) : Int) := by
          rw [tl_bin]
          simp only [List.length_append, List.length_cons, List.length_nil]
          omega
        show some (HO.tup [V.ref p3, V.int (((((pre ++ 40 :: TL.tl a.text) ++ o.code :: TL.tl b.text).length : Nat) : Int) + 1)]) = _
        rw [k3]
      · refine .tup (s4 _ _ _ upd_same) ?_
        have kp : Keep H2 _ := (s3.trans (s4 (.tup [.ref p3, .int (((((pre ++ 40 :: TL.tl a.text) ++ o.code :: TL.tl b.text).length : Nat) : Int) + 1)]))).keep
        exact .cons (.str _) (.cons (A1.mono (s2.keep.trans kp)) (.cons (A2.mono kp) .nil))
end
end Cf


set_option Elab.async false
set_option linter.all false
set_option autoImplicit false
set_option maxRecDepth 100000
set_option maxHeartbeats 2000000
/-! The data of a right book is data that == of the layer can take. -/
namespace Cf
open PySem PySem.Spec PyProof.Rows L2
def Sh (n : Nat) (d : PyData) : Prop := d.canLay0 = true ∧ d.depth ≤ n
theorem Sh.mono {n m : Nat} {d : PyData} (h : Sh n d) (k : n ≤ m) : Sh m d := ⟨h.1, Nat.le_trans h.2 k⟩
theorem Sh.shaped {n : Nat} {d : PyData} (h : Sh n d) (k : n ≤ 64) : SeqAt.shaped d = true := by
  unfold SeqAt.shaped
  rw [h.1, decide_eq_true (Nat.le_trans h.2 k)]
  rfl
theorem sh_int (i : Int) : Sh 0 (.int i) := ⟨by simp [PyData.canLay0], by simp [PyData.depth]⟩
theorem sh_str {x : Str} (h : ∀ c ∈ TL.tl x, c < 1114112) : Sh 0 (.str x) := by
  refine ⟨?_, by simp [PyData.depth]⟩
  show PyData.strOk x = true
  unfold PyData.strOk
  rw [← Array.all_toList, List.all_eq_true]
  intro c hc
  exact decide_eq_true (h c hc)
theorem sh_all {n : Nat} : ∀ {ds : List PyData}, (∀ d ∈ ds, Sh n d) → PyData.canLayAll0 ds = true ∧ PyData.depthAll ds ≤ n
  | [], _ => ⟨by simp [PyData.canLayAll0], by simp [PyData.depthAll]⟩
  | d :: ds, h => by
    obtain ⟨h1, h2⟩ := sh_all fun x hx => h x (List.mem_cons_of_mem _ hx)
    obtain ⟨h3, h4⟩ := h d (List.mem_cons_self ..)
    refine ⟨?_, ?_⟩
    · simp only [PyData.canLayAll0, h1, h3, Bool.and_self]
    · simp only [PyData.depthAll]
      omega
theorem sh_tup {n : Nat} {ds : List PyData} (h : ∀ d ∈ ds, Sh n d) : Sh (n + 1) (.tuple ds) := by
  obtain ⟨h1, h2⟩ := sh_all h
  refine ⟨?_, ?_⟩
  · simp only [PyData.canLay0, h1]
  · simp only [PyData.depth]
    omega
theorem sh_lst {n : Nat} {ds : List PyData} (h : ∀ d ∈ ds, Sh n d) : Sh (n + 1) (.list ds) := by
  obtain ⟨h1, h2⟩ := sh_all h
  refine ⟨?_, ?_⟩
  · simp only [PyData.canLay0, h1]
  · simp only [PyData.depth]
    omega
theorem sh_nm {k : Nat} {x : Str} (h : Nm k x) : Sh 0 (.str x) := sh_str fun c hc => by
  have := h.2.2 c hc
  omega
theorem sh_op (o : Op) : Sh 0 (.str o.word) := by
  refine sh_str ?_
  cases o <;> decide +kernel
theorem sh_lit : Sh 0 (.str "number") ∧ Sh 0 (.str "name") ∧ Sh 0 (.str "set") ∧ Sh 0 (.str "say") ∧ Sh 0 (.str "call") ∧ Sh 0 (.str "when") ∧ Sh 0 (.str "turn") := by
  refine ⟨sh_str ?_, sh_str ?_, sh_str ?_, sh_str ?_, sh_str ?_, sh_str ?_, sh_str ?_⟩ <;> decide +kernel
theorem sh_ex : ∀ {e : Ex} {d : Nat}, ExOk d e → Sh (d + 1) e.enc
  | .num n, d, h => by
    refine (sh_tup (n := 0) fun x hx => ?_).mono (by omega)
    simp only [List.mem_cons, List.not_mem_nil, or_false] at hx
    rcases hx with rfl | rfl
    · exact sh_lit.1
    · exact sh_int _
  | .nam x, d, h => by
    unfold ExOk at h
    refine (sh_tup (n := 0) fun x hx => ?_).mono (by omega)
    simp only [List.mem_cons, List.not_mem_nil, or_false] at hx
    rcases hx with rfl | rfl
    · exact sh_lit.2.1
    · exact sh_nm h
  | .bin o a b, 0, h => by
    unfold ExOk at h
    exact h.elim
  | .bin o a b, d + 1, h => by
    unfold ExOk at h
    refine sh_tup (n := d + 1) fun x hx => ?_
    simp only [List.mem_cons, List.not_mem_nil, or_false] at hx
    rcases hx with rfl | rfl | rfl
    · exact (sh_op o).mono (by omega)
    · exact sh_ex h.1
    · exact sh_ex h.2
theorem sh_exs {as : List Ex} (h : ∀ e ∈ as, ExOk 4 e) : ∀ d ∈ as.map Ex.enc, Sh 5 d := fun d hd => by
  obtain ⟨e, he, rfl⟩ := List.mem_map.mp hd
  exact sh_ex (h e he)
mutual
theorem sh_rw : ∀ (r : Rw) (k : Nat), RwOk k r → Sh (7 + 2 * k) r.enc
  | .set x e, k, h => by
    unfold RwOk at h
    unfold Rw.enc
    refine (sh_tup (n := 6) fun y hy => ?_).mono (by omega)
    simp only [List.mem_cons, List.not_mem_nil, or_false] at hy
    rcases hy with rfl | rfl | rfl
    · exact sh_lit.2.2.1.mono (by omega)
    · exact (sh_nm h.1).mono (by omega)
    · exact (sh_ex h.2).mono (by omega)
  | .say e, k, h => by
    unfold RwOk at h
    unfold Rw.enc
    refine (sh_tup (n := 6) fun y hy => ?_).mono (by omega)
    simp only [List.mem_cons, List.not_mem_nil, or_false] at hy
    rcases hy with rfl | rfl
    · exact sh_lit.2.2.2.1.mono (by omega)
    · exact (sh_ex h).mono (by omega)
  | .call x d as m, k, h => by
    unfold RwOk at h
    unfold Rw.enc
    refine (sh_tup (n := 6) fun y hy => ?_).mono (by omega)
    simp only [List.mem_cons, List.not_mem_nil, or_false] at hy
    rcases hy with rfl | rfl | rfl | rfl | rfl
    · exact sh_lit.2.2.2.2.1.mono (by omega)
    · exact (sh_nm h.1).mono (by omega)
    · exact (sh_nm h.2.1).mono (by omega)
    · exact sh_tup (sh_exs h.2.2.2.1)
    · exact (sh_int _).mono (by omega)
  | .when e rs os, 0, h => by
    unfold RwOk at h
    exact h.elim
  | .when e rs os, k + 1, h => by
    unfold RwOk at h
    unfold Rw.enc
    refine (sh_tup (n := 7 + 2 * k + 1) fun y hy => ?_).mono (by omega)
    simp only [List.mem_cons, List.not_mem_nil, or_false] at hy
    rcases hy with rfl | rfl | rfl | rfl
    · exact sh_lit.2.2.2.2.2.1.mono (by omega)
    · exact (sh_ex h.1).mono (by omega)
    · exact sh_tup (sh_rws rs k h.2.1)
    · exact sh_tup (sh_rws os k h.2.2)
  | .turn e rs, 0, h => by
    unfold RwOk at h
    exact h.elim
  | .turn e rs, k + 1, h => by
    unfold RwOk at h
    unfold Rw.enc
    refine (sh_tup (n := 7 + 2 * k + 1) fun y hy => ?_).mono (by omega)
    simp only [List.mem_cons, List.not_mem_nil, or_false] at hy
    rcases hy with rfl | rfl | rfl
    · exact sh_lit.2.2.2.2.2.2.mono (by omega)
    · exact (sh_ex h.1).mono (by omega)
    · exact sh_tup (sh_rws rs k h.2)
theorem sh_rws : ∀ (rs : List Rw) (k : Nat), RwsOk k rs → ∀ d ∈ encRs rs, Sh (7 + 2 * k) d
  | [], k, h, d, hd => by
    unfold encRs at hd
    cases hd
  | r :: rs, k, h, d, hd => by
    unfold RwsOk at h
    unfold encRs at hd
    rcases List.mem_cons.mp hd with rfl | hd
    · exact sh_rw r k h.1
    · exact sh_rws rs k h.2 d hd
end
theorem sh_dd {d : Dd} (h : DdOk d) : Sh 13 d.enc := by
  obtain ⟨h1, h2, h3, h4, h5, h6, h7⟩ := h
  refine sh_tup (n := 12) fun y hy => ?_
  simp only [List.mem_cons, List.not_mem_nil, or_false] at hy
  rcases hy with rfl | rfl | rfl | rfl
  · exact (sh_nm h1).mono (by omega)
  · refine (sh_tup (n := 0) fun z hz => ?_).mono (by omega)
    obtain ⟨p, hp, rfl⟩ := List.mem_map.mp hz
    exact sh_nm (h3 p hp)
  · exact sh_tup (sh_rws _ 2 h5)
  · exact (sh_ex h7).mono (by omega)
theorem sh_bk {B : Bk} (h : ∀ d ∈ B, DdOk d) : Sh 14 (encB B) := sh_tup fun y hy => by
  obtain ⟨d, hd, rfl⟩ := List.mem_map.mp hy
  exact sh_dd (h d hd)
/-- None is no tuple -/
theorem none_ne {as : List Ex} : (as.map Ex.enc).any (fun z => PyData.eqv z .none) = false := by
  rw [List.any_eq_false]
  intro d hd
  obtain ⟨e, he, rfl⟩ := List.mem_map.mp hd
  cases e <;> simp [Ex.enc, PyData.eqv]
end Cf


set_option Elab.async false
set_option linter.all false
set_option autoImplicit false
set_option maxRecDepth 100000
set_option maxHeartbeats 2000000
/-! expression_of, call_of, plain_row_of. -/
namespace Cf
open PySem PySem.Spec PyProof.Rows L2
open TL (numL)
section
variable {P : Program} {w : World} {K : PySem.W.Frag} {mg : Str → Option Value} {base : Heap}
def spExOf : Sp := fun vs H Q _ => ∃ e : Ex, vs = [.str e.text] ∧ ExOk 4 e ∧ ∀ (H' : Hp) (v : V), Same H H' → At H' v e.enc → Q v H'
abbrev sExOf : Stmt := top 35
theorem scExOf : FnScope ["word", "found"] ["word"] (defScope sExOf) := ⟨rfl, rfl, rfl, by decide +kernel, rfl, by decide +kernel, by decide +kernel⟩
theorem ok_exOf (T : TxA mg) (D : Def K mg "expression_of" sExOf) (CE : Call P w K mg base 7 "expression_from" (spEx 5)) : Call P w K mg base 8 "expression_of" spExOf := by
  refine call_mk D (fun _ _ _ _ _ _ us hl => match us, hl with | [_], _ => rfl) scExOf (fun vs H Q E h => ?_) fun f cdv A outer s H vs Q E hr h => ?_
  · obtain ⟨e, rfl, _⟩ := h
    rfl
  obtain ⟨e, rfl, hE, q⟩ := h
  refine ⟨_, pss_cons (ps_set (i := 1) scExOf.nd rfl (.inl rfl) (pe_cl CE hr (pa_cons (pv 0) (pa_cons pe_int (pa_cons pe_int pa_nil)))))
    (pss_cons (ps_if (PW.pt (pw_or (pt_cmp (pc_isN (pv 1))) (pw_or1 (pt_cmpR op_lt (pe_ix ix_tup (pv 1) pe_int (fun _ _ => rfl)) (pe_callB call_len_str (by rfl) T.len PySem.boot_len (pa_cons (pv 0) pa_nil)) (nomark _))))) (pss_one (ps_ret pe_non)) pss_nil)
    (pss_one (ps_ret (pe_ix ix_tup (pv 1) pe_int (fun _ _ => rfl))))), ?_⟩
  have hl := text_len4 hE
  refine ⟨_, rfl, e.text, [], [], e, 4, 1, rfl, by simp, hE, by decide, by decide, (fun c r h => by cases h), by omega, fun H1 p1 v1 s1 e1 A1 => ?_⟩
  refine ⟨_, rfl, _, rfl, ifF rfl ?_⟩
  refine ⟨_, rfl, p1, _, _, _, rfl, rfl, SqT.of e1, atI_nat (j := 1) rfl, _, rfl, _, rfl, sz (by omega), _, _, rfl, rfl, _, rfl, ifF (decide_eq_false ?_) ?_⟩
  · rw [TL.len_tl]
    simp only [List.length_nil]
    omega
  · exact ⟨_, rfl, p1, _, _, _, rfl, rfl, SqT.of e1, atI_nat (j := 0) rfl, q _ _ s1 A1⟩
/-- further numbers of the module -/
structure TxC (mg : Str → Option Value) : Prop where
  mm : Con mg "MOST_MARK" (.int 99)
  md : Con mg "MOST_DEEDS" (.int 8)
  mp : Con mg "MOST_PARAMS" (.int 4)
  mc : Con mg "MOST_CALLS" (.int 10)
  mr : Con mg "MOST_ROWS" (.int 20)
  mw : Con mg "MOST_DEEP" (.int 3)
theorem cutV_drop {xs : List V} {k : Nat} (h : k ≤ xs.length) : cutV xs (some (k : Int)) none = xs.drop k := by
  have e1 : HT.sIx xs.length 0 (some (k : Int)) = k := by
    unfold HT.sIx
    simp only
    rw [if_neg (by omega)]
    omega
  have e2 : HT.sIx xs.length xs.length none = xs.length := rfl
  unfold cutV
  rw [e1, e2]
  exact List.take_of_length_le (by rw [List.length_drop]; omega)
def spCallOf : Sp := fun vs H Q _ => ∃ (a : Addr) (x d : Str) (as : List Ex) (m : Nat), vs = [.ref a] ∧ H a = some (.lst ((Ln.call x d as m).words.map V.str)) ∧ LnOk (.call x d as m) ∧ ∀ (H' : Hp) (v : V), Same H H' → At H' v (Rw.call x d as m).enc → Q v H'
abbrev sCallOf : Stmt := top 36
theorem scCallOf : FnScope ["words", "mark", "args", "word"] ["words"] (defScope sCallOf) := ⟨rfl, rfl, rfl, by decide +kernel, rfl, by decide +kernel, by decide +kernel⟩
theorem ok_callOf (T : TxA mg) (C : TxC mg) (D : Def K mg "call_of" sCallOf) (CW : Call P w K mg base 1 "is_word" spWord) (CN : Call P w K mg base 1 "number_of" spNum) (CE : Call P w K mg base 8 "expression_of" spExOf) : Call P w K mg base 9 "call_of" spCallOf := by
  refine call_mk D (fun _ _ _ _ _ _ us hl => match us, hl with | [_], _ => rfl) scCallOf (fun vs H Q E h => ?_) fun f cdv A outer s H vs Q E hr h => ?_
  · obtain ⟨a, x, d, as, m, rfl, _⟩ := h
    rfl
  obtain ⟨a, x, d, as, m, rfl, ha, ⟨hx, hd, hn, hA, hm⟩, q⟩ := h
  have hu : A.units + 3 + 65 < cLine := by
    have := hr.un
    have e : (A.deeper (envOfC "call_of" (defScope sCallOf) s.heap.objs.size f cdv)).units = A.units + 3 := rfl
    omega
  refine ⟨_, pss_cons (ps_if (PW.pt (pw_or (pt_not (pt_chain op_le op_le pe_int (pe_callB call_len_seq (by rfl) T.len PySem.boot_len (pa_cons (pv 0) pa_nil)) (pe_op op_add pe_int (pe_k C.mp))))
      (pw_or (pt_not (pt_val (pe_cl CW hr (pa_cons (pe_ix ix_list (pv 0) pe_int (fun _ _ => rfl)) (pa_cons pe_int pa_nil)))))
      (pw_or1 (pt_not (pt_val (pe_cl CW hr (pa_cons (pe_ix ix_list (pv 0) pe_int (fun _ _ => rfl)) (pa_cons pe_int pa_nil))))))))) (pss_one (ps_ret pe_non)) pss_nil)
    (pss_cons (ps_set (i := 1) scCallOf.nd rfl (.inl rfl) (pe_cl CN hr (pa_cons (pe_ix ix_list (pv 0) pe_int (fun _ _ => rfl)) (pa_cons (pe_k C.mm) pa_nil))))
    (pss_cons (ps_setLc (i := 2) (own := [("word", 3)]) (g := gName 3) (tt := tYes) (by rfl) scCallOf.nd rfl rfl (sw_true rfl rfl rfl (by decide +kernel)) (pi_list (pe_slice sl_list (pv 0) (po_some pe_int) po_none)) (blkOk_by (own := [("word", 3)]) (N := ["words", "mark", "args", "word"]) (sc := defScope sCallOf) (by decide +kernel))
        (fun _ _ _ _ _ => pg_name (i := 3) scCallOf.nd rfl (Or.inl rfl)) (fun _ _ _ _ _ => pts_nil) (fun _ _ _ _ _ => pe_cl CE hr (pa_cons (pv 3) pa_nil)))
    (pss_cons (ps_if (PW.pt (pw_or (pt_cmp (pc_isN (pv 1))) (pw_or1 (pt_cmpR (op_inD hu) pe_non (pv 2) (by rfl))))) (pss_one (ps_ret pe_non)) pss_nil)
    (pss_one (ps_ret (pe_tup (pa_cons pe_str (pa_cons (pe_ix ix_list (pv 0) pe_int (fun _ _ => rfl)) (pa_cons (pe_ix ix_list (pv 0) pe_int (fun _ _ => rfl)) (pa_cons (pe_callTy call_tuple_of (by rfl) T.tuple (by decide +kernel) (pa_cons (pv 2) pa_nil)) (pa_cons (pv 1) pa_nil))))))))))), ?_⟩
  have ha' : H a = some (.lst (V.str "call" :: V.str x :: V.str d :: V.str (numS m) :: as.map fun e => V.str e.text)) := by
    rw [ha]
    simp [Ln.words]
  have hL : (V.str "call" :: V.str x :: V.str d :: V.str (numS m) :: as.map fun e => V.str e.text).length = as.length + 4 := by simp
  have i1 : atI (V.str "call" :: V.str x :: V.str d :: V.str (numS m) :: as.map fun e => V.str e.text) 1 = some (V.str x) := atI_nat (j := 1) rfl
  have i2 : atI (V.str "call" :: V.str x :: V.str d :: V.str (numS m) :: as.map fun e => V.str e.text) 2 = some (V.str d) := atI_nat (j := 2) rfl
  have i3 : atI (V.str "call" :: V.str x :: V.str d :: V.str (numS m) :: as.map fun e => V.str e.text) 3 = some (V.str (numS m)) := atI_nat (j := 3) rfl
  -- not 4 <= len(words) <= 4 + MOST_PARAMS
  refine ⟨_, rfl, a, _, rfl, .inl (SqL.of ha'), _, _, rfl, rfl, _, rfl, ifT (decide_eq_true (by rw [hL]; omega)) ⟨_, _, rfl, rfl, _, _, rfl, rfl, _, rfl, ifF ?_ ?_⟩⟩
  · have e1 : decide ((((V.str "call" :: V.str x :: V.str d :: V.str (numS m) :: as.map fun e => V.str e.text).length : Nat) : Int) ≤ 4 + 4) = true := decide_eq_true (by rw [hL]; omega)
    show (!decide _) = false
    rw [e1]
    rfl
  -- not is_word(words[1], 4)
  refine ⟨_, rfl, a, _, 1, _, rfl, rfl, SqL.of ha', i1, x, 4, rfl, Nat.le_trans hx.2.1 (by decide), fun H1 s1 => ⟨true, congrArg V.bl (isWord_nm hx), ifF rfl ?_⟩⟩
  -- not is_word(words[2], 8)
  refine ⟨_, rfl, a, _, 2, _, rfl, rfl, SqL.of (s1 _ _ ha'), i2, d, 8, rfl, Nat.le_trans hd.2.1 (by decide), fun H2 s2 => ⟨true, congrArg V.bl (isWord_nm hd), ifF rfl ?_⟩⟩
  -- mark = number_of(words[3], MOST_MARK)
  have s12 := s1.trans s2
  refine ⟨_, rfl, a, _, 3, _, rfl, rfl, SqL.of (s12 _ _ ha'), i3, m, 99, rfl, by omega, by omega, fun H3 s3 => ?_⟩
  have s13 := s12.trans s3
  -- args = [expression_of(word) for word in words[4:]]
  refine ⟨_, rfl, 4, rfl, a, _, rfl, SqL.of (s13 _ _ ha'), fun p4 h4 => ?_⟩
  have ecut : cutV (V.str "call" :: V.str x :: V.str d :: V.str (numS m) :: as.map fun e => V.str e.text) (some 4) none = as.map fun e => V.str e.text := (cutV_drop (k := 4) (by rw [hL]; omega)).trans rfl
  rw [ecut]
  have s4 := same_upd (o := .lst (as.map fun e => V.str e.text)) h4
  have e4 : (upd H3 p4 (.lst (as.map fun e => V.str e.text))) p4 = some (.lst (as.map fun e => V.str e.text)) := upd_same
  generalize upd H3 p4 (.lst (as.map fun e => V.str e.text)) = H4 at s4 e4
  refine ⟨p4, rfl, ⟨_, SqL.of e4⟩, fun L hL' => ?_⟩
  refine lc_it walk_list (fun i H' => Same H4 H' ∧ ∃ vs', H' L = some (.lst vs') ∧ Ats H' vs' ((as.take i).map Ex.enc)) ⟨same_upd hL', [], upd_same, .nil⟩ (fun i H' _ p => SqL.of (p.1 _ _ e4)) (fun i y Ha Hb hi p hy => ?_) (fun H5 p => ?_)
  · obtain ⟨rfl, hy⟩ := hy
    obtain ⟨s5, vs', eL, AL⟩ := p
    rw [List.length_map] at hi
    have hg : as[i]? = some as[i] := List.getElem?_eq_getElem hi
    rw [List.getElem?_map, hg] at hy
    have ey : y = V.str (as[i]).text := (Option.some.inj hy).symm
    subst ey
    refine ⟨rfl, _, rfl, as[i], rfl, hA _ (List.getElem_mem hi), fun H6 v6 s6 A6 => ?_⟩
    have lv : vs'.length ≤ 1000 := by
      rw [AL.len, List.length_map, List.length_take]
      omega
    have kp := Keep.wr (o' := .lst (vs' ++ [v6])) (s6 _ _ eL) (by intro xs z; cases z)
    refine ⟨vs', s6 _ _ eL, szl (by omega), (s5.trans s6).mut hL', vs' ++ [v6], upd_same, ?_⟩
    rw [List.take_add_one, hg]
    simp only [Option.toList_some, List.map_append, List.map_cons, List.map_nil]
    exact ((AL.mono s6.keep).snoc A6).mono kp
  obtain ⟨s5, vs', eL, AL⟩ := p
  rw [List.take_of_length_le (by rw [List.length_map]; omega)] at AL
  have s15 := (s13.trans s4).trans s5
  -- mark is None or None in args
  refine ⟨_, rfl, _, rfl, ifF rfl ?_⟩
  refine ⟨_, rfl, .none, as.map Ex.enc, .non, .lst (SqL.of eL) AL.dp, rfl, (sh_lst (sh_exs hA)).shaped (by decide), _, rfl, ifF none_ne ?_⟩
  -- the answer
  refine ⟨_, rfl, a, _, 1, _, rfl, rfl, SqL.of (s15 _ _ ha'), i1, _, rfl, a, _, 2, _, rfl, rfl, SqL.of (s15 _ _ ha'), i2, _, rfl, L, vs', rfl, .inl ⟨SqL.of eL, fun p6 h6 => ?_⟩⟩
  have s6 := same_upd (o := .tup vs') h6
  refine ⟨_, rfl, szn 5, fun p7 h7 => ?_⟩
  have s7 := fun o => same_upd (o := o) h7
  refine q _ _ ((s15.trans s6).trans (s7 _)) ?_
  unfold Rw.enc
  refine at_new h7 ?_
  exact .cons (.str _) (.cons (.str _) (.cons (.str _) (.cons (at_new h6 AL) (.cons (.int _) .nil))))
end
end Cf


set_option Elab.async false
set_option linter.all false
set_option autoImplicit false
set_option maxRecDepth 100000
set_option maxHeartbeats 2000000
/-! plain_row_of. -/
namespace Cf
open PySem PySem.Spec PyProof.Rows L2
open TL (numL)
section
variable {P : Program} {w : World} {K : PySem.W.Frag} {mg : Str → Option Value} {base : Heap}
/-- the row that a plain line writes -/
inductive PlainR : Ln → Rw → Prop where
  | set (x : Str) (e : Ex) : PlainR (.set x e) (.set x e)
  | say (e : Ex) : PlainR (.say e) (.say e)
  | call (x d : Str) (as : List Ex) (m : Nat) : PlainR (.call x d as m) (.call x d as m)
def spPlain : Sp := fun vs H Q _ => ∃ (a : Addr) (l : Ln) (r : Rw), vs = [.ref a] ∧ H a = some (.lst (l.words.map V.str)) ∧ LnOk l ∧ PlainR l r ∧ ∀ (H' : Hp) (v : V), Same H H' → At H' v r.enc → Q v H'
abbrev sPlain : Stmt := top 37
theorem scPlain : FnScope ["words", "expression"] ["words"] (defScope sPlain) := ⟨rfl, rfl, rfl, by decide +kernel, rfl, by decide +kernel, by decide +kernel⟩
theorem ok_plain (T : TxA mg) (D : Def K mg "plain_row_of" sPlain) (CC : Call P w K mg base 9 "call_of" spCallOf) (CW : Call P w K mg base 1 "is_word" spWord) (CE : Call P w K mg base 8 "expression_of" spExOf) : Call P w K mg base 10 "plain_row_of" spPlain := by
  refine call_mk D (fun _ _ _ _ _ _ us hl => match us, hl with | [_], _ => rfl) scPlain (fun vs H Q E h => ?_) fun f cdv A outer s H vs Q E hr h => ?_
  · obtain ⟨a, l, r, rfl, _⟩ := h
    rfl
  obtain ⟨a, l, r, rfl, ha, hl, hp, q⟩ := h
  refine ⟨_, pss_cons (ps_if (pt_cmpR op_eq (pe_ix ix_list (pv 0) pe_int (fun _ _ => rfl)) pe_str (nomark _)) (pss_one (ps_ret (pe_cl CC hr (pa_cons (pv 0) pa_nil)))) pss_nil)
    (pss_cons (ps_set (i := 1) scPlain.nd rfl (.inl rfl) (pe_cl CE hr (pa_cons (pe_ix ix_list (pv 0) (pe_un un_neg pe_int) (fun _ _ => rfl)) pa_nil)))
    (pss_cons (ps_if (pt_cmp (pc_isN (pv 1))) (pss_one (ps_ret pe_non)) pss_nil)
    (pss_cons (ps_if (PW.pt (pw_and (pt_cmpR op_eq (pe_ix ix_list (pv 0) pe_int (fun _ _ => rfl)) pe_str (nomark _)) (pw_and1 (pt_cmpR op_eq (pe_callB call_len_seq (by rfl) T.len PySem.boot_len (pa_cons (pv 0) pa_nil)) pe_int (nomark _)))))
      (pss_one (ps_ret (pe_tup (pa_cons pe_str (pa_cons (pv 1) pa_nil))))) pss_nil)
    (pss_cons (ps_if (PW.pt (pw_and (pt_cmpR op_eq (pe_ix ix_list (pv 0) pe_int (fun _ _ => rfl)) pe_str (nomark _)) (pw_and (pt_cmpR op_eq (pe_callB call_len_seq (by rfl) T.len PySem.boot_len (pa_cons (pv 0) pa_nil)) pe_int (nomark _))
        (pw_and1 (pt_val (pe_cl CW hr (pa_cons (pe_ix ix_list (pv 0) pe_int (fun _ _ => rfl)) (pa_cons pe_int pa_nil))))))))
      (pss_one (ps_ret (pe_tup (pa_cons pe_str (pa_cons (pe_ix ix_list (pv 0) pe_int (fun _ _ => rfl)) (pa_cons (pv 1) pa_nil)))))) pss_nil)
    (pss_one (ps_ret pe_non)))))), ?_⟩
  cases hp with
  | call x d as m =>
    have i0 : atI ((Ln.call x d as m).words.map V.str) 0 = some (V.str "call") := atI_nat (j := 0) rfl
    refine ⟨_, rfl, a, _, 0, _, rfl, rfl, SqL.of ha, i0, rfl, _, rfl, ifT (decide_eq_true rfl) ?_⟩
    exact ⟨_, rfl, a, x, d, as, m, rfl, ha, hl, q⟩
  | say e =>
    have ha' : H a = some (.lst [V.str "say", V.str e.text]) := ha
    have i0 : atI [V.str "say", V.str e.text] 0 = some (V.str "say") := atI_nat (j := 0) rfl
    have i1 : atI [V.str "say", V.str e.text] (-1) = some (V.str e.text) := atI_last [V.str "say"] _
    refine ⟨_, rfl, a, _, 0, _, rfl, rfl, SqL.of ha', i0, rfl, _, rfl, ifF (by decide +kernel) ?_⟩
    refine ⟨_, rfl, 1, rfl, a, _, (-1), _, rfl, rfl, SqL.of ha', i1, e, rfl, hl, fun H1 v1 s1 A1 => ?_⟩
    have ha1 := s1 _ _ ha'
    have nn : v1 ≠ .non := by
      intro z
      subst z
      cases e <;> cases A1
    refine ⟨_, rfl, _, rfl, ifF (decide_eq_false nn) ?_⟩
    refine ⟨_, rfl, a, _, 0, _, rfl, rfl, SqL.of ha1, i0, rfl, _, rfl, ifT (decide_eq_true rfl) ⟨_, rfl, a, _, rfl, .inl (SqL.of ha1), rfl, _, rfl, ifT (decide_eq_true rfl) ?_⟩⟩
    refine ⟨_, rfl, szn 2, fun p2 h2 => ?_⟩
    refine q _ _ (s1.trans (same_upd h2)) ?_
    unfold Rw.enc
    exact at_new h2 (.cons (.str _) (.cons A1 .nil))
  | set x e =>
    obtain ⟨hx, hE⟩ := hl
    have ha' : H a = some (.lst [V.str "set", V.str x, V.str e.text]) := ha
    have i0 : atI [V.str "set", V.str x, V.str e.text] 0 = some (V.str "set") := atI_nat (j := 0) rfl
    have ix : atI [V.str "set", V.str x, V.str e.text] 1 = some (V.str x) := atI_nat (j := 1) rfl
    have i1 : atI [V.str "set", V.str x, V.str e.text] (-1) = some (V.str e.text) := atI_last [V.str "set", V.str x] _
    refine ⟨_, rfl, a, _, 0, _, rfl, rfl, SqL.of ha', i0, rfl, _, rfl, ifF (by decide +kernel) ?_⟩
    refine ⟨_, rfl, 1, rfl, a, _, (-1), _, rfl, rfl, SqL.of ha', i1, e, rfl, hE, fun H1 v1 s1 A1 => ?_⟩
    have ha1 := s1 _ _ ha'
    have nn : v1 ≠ .non := by
      intro z
      subst z
      cases e <;> cases A1
    refine ⟨_, rfl, _, rfl, ifF (decide_eq_false nn) ?_⟩
    refine ⟨_, rfl, a, _, 0, _, rfl, rfl, SqL.of ha1, i0, rfl, _, rfl, ifF (by decide +kernel) ?_⟩
    refine ifF rfl ?_
    refine ⟨_, rfl, a, _, 0, _, rfl, rfl, SqL.of ha1, i0, rfl, _, rfl, ifT (decide_eq_true rfl) ⟨_, rfl, a, _, rfl, .inl (SqL.of ha1), rfl, _, rfl, ifT (decide_eq_true rfl) ?_⟩⟩
    refine ⟨_, rfl, a, _, 1, _, rfl, rfl, SqL.of ha1, ix, x, 4, rfl, Nat.le_trans hx.2.1 (by decide), fun H2 s2 => ⟨true, congrArg V.bl (isWord_nm hx), ifT rfl ?_⟩⟩
    have ha2 := s2 _ _ ha1
    refine ⟨_, rfl, a, _, 1, _, rfl, rfl, SqL.of ha2, ix, _, rfl, szn 3, fun p2 h2 => ?_⟩
    refine q _ _ ((s1.trans s2).trans (same_upd h2)) ?_
    unfold Rw.enc
    exact at_new h2 (.cons (.str _) (.cons (.str _) (.cons (A1.mono s2.keep) .nil)))
end
end Cf


set_option Elab.async false
set_option linter.all false
set_option autoImplicit false
set_option maxRecDepth 100000
set_option maxHeartbeats 2000000
/-! How a Reading lies in the heap. -/
namespace Cf
open PySem PySem.Spec PyProof.Rows L2
open TL (numL)
/-! ### its attributes -/
def flds (ld : Addr) (vh : V) (lb : Addr) (r c : Int) : List (Str × V) := [("read_deeds", .ref ld), ("head", vh), ("blocks", .ref lb), ("row_count", .int r), ("call_count", .int c)]
theorem lk_here {k : Str} {v : V} {r : List (Str × V)} : List.lookup k ((k, v) :: r) = some v := by
  have e : (k == k) = true := beq_self_eq_true k
  simp only [List.lookup, e]
theorem lk_past {k g : Str} {v : V} {r : List (Str × V)} (h : (k == g) = false) : List.lookup k ((g, v) :: r) = List.lookup k r := by
  simp only [List.lookup, h]
theorem put_here {f : Str} {v x : V} {r : List (Str × V)} : putF f v ((f, x) :: r) = (f, v) :: r := if_pos rfl
theorem put_past {f g : Str} {v x : V} {r : List (Str × V)} (h : ¬ g = f) : putF f v ((g, x) :: r) = (g, x) :: putF f v r := if_neg h
section
variable {ld lb : Addr} {vh : V} {r c : Int}
theorem f_deeds : (flds ld vh lb r c).lookup ("read_deeds" : Str) = some (.ref ld) := lk_here
theorem f_head : (flds ld vh lb r c).lookup ("head" : Str) = some vh := (lk_past (by decide +kernel)).trans lk_here
theorem f_blocks : (flds ld vh lb r c).lookup ("blocks" : Str) = some (.ref lb) := (lk_past (by decide +kernel)).trans ((lk_past (by decide +kernel)).trans lk_here)
theorem f_rows : (flds ld vh lb r c).lookup ("row_count" : Str) = some (.int r) := (lk_past (by decide +kernel)).trans ((lk_past (by decide +kernel)).trans ((lk_past (by decide +kernel)).trans lk_here))
theorem f_calls : (flds ld vh lb r c).lookup ("call_count" : Str) = some (.int c) := (lk_past (by decide +kernel)).trans ((lk_past (by decide +kernel)).trans ((lk_past (by decide +kernel)).trans ((lk_past (by decide +kernel)).trans lk_here)))
theorem f_no {m : Str} (h1 : (m == ("read_deeds" : Str)) = false) (h2 : (m == ("head" : Str)) = false) (h3 : (m == ("blocks" : Str)) = false) (h4 : (m == ("row_count" : Str)) = false) (h5 : (m == ("call_count" : Str)) = false) : (flds ld vh lb r c).lookup m = none :=
  (lk_past h1).trans ((lk_past h2).trans ((lk_past h3).trans ((lk_past h4).trans ((lk_past h5).trans rfl))))
theorem p_head (v : V) : putF "head" v (flds ld vh lb r c) = flds ld v lb r c := (put_past (by decide +kernel)).trans (congrArg _ put_here)
theorem p_blocks (a : Addr) : putF "blocks" (.ref a) (flds ld vh lb r c) = flds ld vh a r c := (put_past (by decide +kernel)).trans (congrArg _ ((put_past (by decide +kernel)).trans (congrArg _ put_here)))
theorem p_rows (i : Int) : putF "row_count" (.int i) (flds ld vh lb r c) = flds ld vh lb i c :=
  (put_past (by decide +kernel)).trans (congrArg _ ((put_past (by decide +kernel)).trans (congrArg _ ((put_past (by decide +kernel)).trans (congrArg _ put_here)))))
theorem p_calls (i : Int) : putF "call_count" (.int i) (flds ld vh lb r c) = flds ld vh lb r i :=
  (put_past (by decide +kernel)).trans (congrArg _ ((put_past (by decide +kernel)).trans (congrArg _ ((put_past (by decide +kernel)).trans (congrArg _ ((put_past (by decide +kernel)).trans (congrArg _ put_here)))))))
theorem f_len : (flds ld vh lb r c).length < 1000 := by show 5 < 1000; decide
end
/-! ### its blocks -/
/-- a block's own list, its rows' list, its others' list -/
structure BA where
  b : Addr
  r : Addr
  o : Addr
def BA.own (x : BA) : Blk → List Addr
  | .whenB _ _ _ => [x.b, x.r, x.o]
  | _ => [x.b, x.r]
def BlkAt (H : Hp) (x : BA) : Blk → Prop
  | .deed rs => ∃ vs, H x.b = some (.lst [.str "deed", .non, .ref x.r, .non]) ∧ H x.r = some (.lst vs) ∧ Ats H vs (encRs rs)
  | .turn e rs => ∃ ve vs, H x.b = some (.lst [.str "turn", ve, .ref x.r, .non]) ∧ At H ve e.enc ∧ H x.r = some (.lst vs) ∧ Ats H vs (encRs rs)
  | .whenA e rs => ∃ ve vs, H x.b = some (.lst [.str "when", ve, .ref x.r, .non]) ∧ At H ve e.enc ∧ H x.r = some (.lst vs) ∧ Ats H vs (encRs rs)
  | .whenB e rs os => ∃ ve vs us, H x.b = some (.lst [.str "when", ve, .ref x.r, .ref x.o]) ∧ At H ve e.enc ∧ H x.r = some (.lst vs) ∧ Ats H vs (encRs rs) ∧ H x.o = some (.lst us) ∧ Ats H us (encRs os)
theorem BlkAt.mono {H H' : Hp} {x : BA} {b : Blk} (h : BlkAt H x b) (k : Keep H H') (s : ∀ a ∈ x.own b, ∀ o, H a = some o → H' a = some o) : BlkAt H' x b := by
  cases b with
  | deed rs =>
    obtain ⟨vs, h1, h2, h3⟩ := h
    exact ⟨vs, s _ (by simp [BA.own]) _ h1, s _ (by simp [BA.own]) _ h2, h3.mono k⟩
  | turn e rs =>
    obtain ⟨ve, vs, h1, h2, h3, h4⟩ := h
    exact ⟨ve, vs, s _ (by simp [BA.own]) _ h1, h2.mono k, s _ (by simp [BA.own]) _ h3, h4.mono k⟩
  | whenA e rs =>
    obtain ⟨ve, vs, h1, h2, h3, h4⟩ := h
    exact ⟨ve, vs, s _ (by simp [BA.own]) _ h1, h2.mono k, s _ (by simp [BA.own]) _ h3, h4.mono k⟩
  | whenB e rs os =>
    obtain ⟨ve, vs, us, h1, h2, h3, h4, h5, h6⟩ := h
    exact ⟨ve, vs, us, s _ (by simp [BA.own]) _ h1, h2.mono k, s _ (by simp [BA.own]) _ h3, h4.mono k, s _ (by simp [BA.own]) _ h5, h6.mono k⟩
/-- what a block owns is a list -/
theorem BlkAt.lst {H : Hp} {x : BA} {b : Blk} (h : BlkAt H x b) : ∀ a ∈ x.own b, ∃ l, H a = some (.lst l) := by
  intro a ha
  cases b with
  | deed rs =>
    obtain ⟨vs, h1, h2, h3⟩ := h
    simp only [BA.own, List.mem_cons, List.not_mem_nil, or_false] at ha
    rcases ha with rfl | rfl
    · exact ⟨_, h1⟩
    · exact ⟨_, h2⟩
  | turn e rs =>
    obtain ⟨ve, vs, h1, h2, h3, h4⟩ := h
    simp only [BA.own, List.mem_cons, List.not_mem_nil, or_false] at ha
    rcases ha with rfl | rfl
    · exact ⟨_, h1⟩
    · exact ⟨_, h3⟩
  | whenA e rs =>
    obtain ⟨ve, vs, h1, h2, h3, h4⟩ := h
    simp only [BA.own, List.mem_cons, List.not_mem_nil, or_false] at ha
    rcases ha with rfl | rfl
    · exact ⟨_, h1⟩
    · exact ⟨_, h3⟩
  | whenB e rs os =>
    obtain ⟨ve, vs, us, h1, h2, h3, h4, h5, h6⟩ := h
    simp only [BA.own, List.mem_cons, List.not_mem_nil, or_false] at ha
    rcases ha with rfl | rfl | rfl
    · exact ⟨_, h1⟩
    · exact ⟨_, h3⟩
    · exact ⟨_, h5⟩
inductive BlksAt (H : Hp) : List BA → List Blk → List Addr → Prop where
  | nil : BlksAt H [] [] []
  | cons {x : BA} {xs : List BA} {b : Blk} {bs : List Blk} {own : List Addr} : BlkAt H x b → BlksAt H xs bs own → BlksAt H (x :: xs) (b :: bs) (x.own b ++ own)
theorem BlksAt.mono {H H' : Hp} (k : Keep H H') : ∀ {xs : List BA} {bs : List Blk} {own : List Addr}, BlksAt H xs bs own → (∀ a ∈ own, ∀ o, H a = some o → H' a = some o) → BlksAt H' xs bs own
  | _, _, _, .nil, _ => .nil
  | _, _, _, .cons h1 h2, s => .cons (h1.mono k fun a ha => s a (List.mem_append_left _ ha)) (h2.mono k fun a ha => s a (List.mem_append_right _ ha))
theorem BlksAt.lst {H : Hp} : ∀ {xs : List BA} {bs : List Blk} {own : List Addr}, BlksAt H xs bs own → ∀ a ∈ own, ∃ l, H a = some (.lst l)
  | _, _, _, .nil, a, ha => by cases ha
  | _, _, _, .cons h1 h2, a, ha => (List.mem_append.mp ha).elim (h1.lst a) (h2.lst a)
theorem BlksAt.len {H : Hp} : ∀ {xs : List BA} {bs : List Blk} {own : List Addr}, BlksAt H xs bs own → xs.length = bs.length
  | _, _, _, .nil => rfl
  | _, _, _, .cons h1 h2 => by rw [List.length_cons, List.length_cons, h2.len]
/-! ### the whole -/
def encH : Str × List Str → PyData := fun h => .tuple [.str h.1, .tuple (h.2.map PyData.str)]
def HeadAt (H : Hp) (v : V) : Option (Str × List Str) → Prop
  | none => v = .non
  | some h => At H v (encH h)
theorem HeadAt.mono {H H' : Hp} {v : V} {h : Option (Str × List Str)} (k : Keep H H') (a : HeadAt H v h) : HeadAt H' v h := by
  cases h with
  | none => exact a
  | some h => exact At.mono k a
/-- the Reading at p is in the state s; all of it is new since H0 -/
structure RDx (C : Addr) (H0 H : Hp) (p dx ld lb : Addr) (vh : V) (vds : List V) (xs : List BA) (own : List Addr) (s : RS) : Prop where
  ob : H p = some (.ins C dx (flds ld vh lb s.rows s.calls))
  np : H0 p = none
  dl : H ld = some (.lst vds)
  da : Ats H vds (s.deeds.map Dd.enc)
  hd : HeadAt H vh s.head
  bl : H lb = some (.lst (xs.map fun x => V.ref x.b).reverse)
  ba : BlksAt H xs s.blocks own
  fresh : ∀ a ∈ ld :: lb :: own, H0 a = none
  nd : (ld :: lb :: own).Nodup
def RD (C : Addr) (H0 H : Hp) (p : Addr) (s : RS) : Prop := ∃ dx ld lb vh vds xs own, RDx C H0 H p dx ld lb vh vds xs own s
/-- new things, tuples kept: all stays -/
theorem RDx.same {C : Addr} {H0 H H' : Hp} {p dx ld lb : Addr} {vh : V} {vds : List V} {xs : List BA} {own : List Addr} {s : RS} (R : RDx C H0 H p dx ld lb vh vds xs own s) (e : Same H H') : RDx C H0 H' p dx ld lb vh vds xs own s :=
  ⟨e _ _ R.ob, R.np, e _ _ R.dl, R.da.mono e.keep, R.hd.mono e.keep, e _ _ R.bl, R.ba.mono e.keep fun a _ o h => e a o h, R.fresh, R.nd⟩
section
variable {C : Addr} {H0 H H' : Hp} {p dx ld lb : Addr} {vh : V} {vds : List V} {xs : List BA} {own : List Addr} {s : RS}
/-- what it owns is a list -/
theorem RDx.lst (R : RDx C H0 H p dx ld lb vh vds xs own s) : ∀ a ∈ ld :: lb :: own, ∃ l, H a = some (.lst l) := by
  intro a ha
  rcases List.mem_cons.mp ha with rfl | ha
  · exact ⟨_, R.dl⟩
  · rcases List.mem_cons.mp ha with rfl | ha
    · exact ⟨_, R.bl⟩
    · exact R.ba.lst a ha
theorem RDx.pne (R : RDx C H0 H p dx ld lb vh vds xs own s) {a : Addr} (ha : a ∈ ld :: lb :: own) : p ≠ a := by
  obtain ⟨l, hl⟩ := R.lst a ha
  exact ne_of R.ob hl (by intro z; cases z)
/-- a change of lists keeps the tuples -/
theorem keep_of {S : List Addr} (hs : ∀ a ∈ S, ∃ l, H a = some (.lst l)) (h : Fr S H H') : Keep H H' := fun b ys e => h b _ e fun hb => by
  obtain ⟨l, hl⟩ := hs b hb
  rw [hl] at e
  cases e
theorem same_of {S : List Addr} (hs : ∀ a ∈ S, H0 a = none) (h0 : Same H0 H) (h : Fr S H H') : Same H0 H' := fun b o e => h b o (h0 b o e) fun hb => by
  rw [hs b hb] at e
  cases e
/-- the innermost block becomes another -/
theorem RDx.top {x x' : BA} {b b' : Blk} {bs : List Blk} {ds : List Dd} {h : Option (Str × List Str)} {r c : Nat} (R : RDx C H0 H p dx ld lb vh vds (x :: xs) own ⟨ds, h, b :: bs, r, c⟩) (h0 : Same H0 H)
    (f : Fr (x.own b) H H') (hb : BlkAt H' x' b') (hx : x'.b = x.b) (hn : ∀ a ∈ x'.own b', a ∈ x.own b ∨ H a = none) (nd : (x'.own b').Nodup) : ∃ own', RDx C H0 H' p dx ld lb vh vds (x' :: xs) own' ⟨ds, h, b' :: bs, r, c⟩ := by
  have hl := R.lst
  have hp := @RDx.pne _ _ _ _ _ _ _ _ _ _ _ _ R
  obtain ⟨ob, np, dl, da, hd, bl, ba, fr, nod⟩ := R
  cases ba with
  | @cons _ _ _ _ own1 b1 b2 =>
    have hown : ∀ a ∈ x.own b, a ∈ ld :: lb :: (x.own b ++ own1) := fun a ha => List.mem_cons_of_mem _ (List.mem_cons_of_mem _ (List.mem_append_left _ ha))
    have kp : Keep H H' := keep_of (fun a ha => hl a (hown a ha)) f
    have nod' := nod
    rw [List.nodup_cons, List.nodup_cons, List.nodup_append] at nod'
    obtain ⟨n1, n2, n3, n4, n5⟩ := nod'
    have l1 : ld ∉ x.own b := fun z => n1 (List.mem_cons_of_mem _ (List.mem_append_left _ z))
    have l2 : lb ∉ x.own b := fun z => n2 (List.mem_append_left _ z)
    have l3 : p ∉ x.own b := fun z => hp (hown p z) rfl
    have l4 : ∀ a ∈ own1, a ∉ x.own b := fun a ha z => n5 a z a ha rfl
    have new : ∀ a ∈ x'.own b', a ≠ ld ∧ a ≠ lb ∧ a ∉ own1 := fun a ha => by
      rcases hn a ha with z | z
      · exact ⟨fun e => l1 (e ▸ z), fun e => l2 (e ▸ z), fun e => l4 a e z⟩
      · refine ⟨fun e => ?_, fun e => ?_, fun e => ?_⟩
        · rw [e, dl] at z
          cases z
        · rw [e, bl] at z
          cases z
        · obtain ⟨l, hl'⟩ := hl a (List.mem_cons_of_mem _ (List.mem_cons_of_mem _ (List.mem_append_right _ e)))
          rw [hl'] at z
          cases z
    refine ⟨x'.own b' ++ own1, f _ _ ob l3, np, f _ _ dl l1, da.mono kp, hd.mono kp, ?_, .cons hb (b2.mono kp fun a ha o e => f a o e (l4 a ha)), ?_, ?_⟩
    · rw [f _ _ bl l2]
      simp only [List.map_cons, hx]
    · intro a ha
      simp only [List.mem_cons, List.mem_append] at ha
      rcases ha with rfl | rfl | ha | ha
      · exact fr _ (List.mem_cons_self ..)
      · exact fr _ (List.mem_cons_of_mem _ (List.mem_cons_self ..))
      · rcases hn a ha with z | z
        · exact fr a (hown a z)
        · exact h0.free z
      · exact fr a (List.mem_cons_of_mem _ (List.mem_cons_of_mem _ (List.mem_append_right _ ha)))
    · rw [List.nodup_cons, List.nodup_cons, List.nodup_append]
      refine ⟨fun z => ?_, fun z => ?_, nd, n4, fun a ha d hd e => (new a ha).2.2 (e ▸ hd)⟩
      · simp only [List.mem_cons, List.mem_append] at z
        rcases z with z | z | z
        · exact n1 (z ▸ List.mem_cons_self ..)
        · exact (new _ z).1 rfl
        · exact n1 (List.mem_cons_of_mem _ (List.mem_append_right _ z))
      · rcases List.mem_append.mp z with z | z
        · exact (new _ z).2.1 rfl
        · exact n2 (List.mem_append_right _ z)
/-- the numbers change -/
theorem RDx.cnt (R : RDx C H0 H p dx ld lb vh vds xs own s) {r c : Nat} : RDx C H0 (upd H p (.ins C dx (flds ld vh lb r c))) p dx ld lb vh vds xs own { s with rows := r, calls := c } := by
  have kp : Keep H (upd H p (.ins C dx (flds ld vh lb r c))) := Keep.wr R.ob (by intro xs z; cases z)
  have st : ∀ a ∈ ld :: lb :: own, ∀ o, H a = some o → (upd H p (.ins C dx (flds ld vh lb r c))) a = some o := fun a ha o e => by
    rw [upd_ne (R.pne ha).symm]
    exact e
  exact ⟨upd_same, R.np, st _ (by simp) _ R.dl, R.da.mono kp, R.hd.mono kp, st _ (by simp) _ R.bl, R.ba.mono kp fun a ha o e => st a (by simp [ha]) o e, R.fresh, R.nd⟩
/-- the innermost block is dropped -/
theorem RDx.pop {x : BA} {b : Blk} {bs : List Blk} {ds : List Dd} {h : Option (Str × List Str)} {r c : Nat} (R : RDx C H0 H p dx ld lb vh vds (x :: xs) own ⟨ds, h, b :: bs, r, c⟩) :
    ∃ own', RDx C H0 (upd H lb (.lst (xs.map fun x => V.ref x.b).reverse)) p dx ld lb vh vds xs own' ⟨ds, h, bs, r, c⟩ := by
  have hp := @RDx.pne _ _ _ _ _ _ _ _ _ _ _ _ R
  obtain ⟨ob, np, dl, da, hd, bl, ba, fr, nod⟩ := R
  cases ba with
  | @cons _ _ _ _ own1 b1 b2 =>
    have nod' := nod
    rw [List.nodup_cons, List.nodup_cons, List.nodup_append] at nod'
    obtain ⟨n1, n2, n3, n4, n5⟩ := nod'
    have kp : Keep H (upd H lb (.lst (xs.map fun x => V.ref x.b).reverse)) := Keep.wr bl (by intro xs z; cases z)
    refine ⟨own1, ?_, np, ?_, da.mono kp, hd.mono kp, upd_same, b2.mono kp fun a ha o e => ?_, fun a ha => ?_, ?_⟩
    · rw [upd_ne (hp (by simp))]
      exact ob
    · rw [upd_ne (show ld ≠ lb from fun z => n1 (by rw [z]; exact List.mem_cons_self ..))]
      exact dl
    · rw [upd_ne (show a ≠ lb from fun z => n2 (List.mem_append_right _ (by rw [← z]; exact ha)))]
      exact e
    · simp only [List.mem_cons] at ha
      rcases ha with rfl | rfl | ha
      · exact fr _ (by simp)
      · exact fr _ (by simp)
      · exact fr a (by simp [ha])
    · rw [List.nodup_cons, List.nodup_cons]
      refine ⟨fun z => ?_, fun z => n2 (List.mem_append_right _ z), n4⟩
      rcases List.mem_cons.mp z with z | z
      · exact n1 (z ▸ List.mem_cons_self ..)
      · exact n1 (List.mem_cons_of_mem _ (List.mem_append_right _ z))
/-- a new block is put in: everything of it is new -/
theorem RDx.push {x : BA} {b : Blk} {bs : List Blk} {ds : List Dd} {h : Option (Str × List Str)} {r c : Nat} (R : RDx C H0 H p dx ld lb vh vds xs own ⟨ds, h, bs, r, c⟩) (h0 : Same H0 H)
    (e : Same H H') (hb : BlkAt H' x b) (hn : ∀ a ∈ x.own b, H a = none) (nd : (x.own b).Nodup) :
    ∃ own', RDx C H0 (upd H' lb (.lst ((xs.map fun x => V.ref x.b).reverse ++ [V.ref x.b]))) p dx ld lb vh vds (x :: xs) own' ⟨ds, h, b :: bs, r, c⟩ := by
  have hl := R.lst
  have hp := @RDx.pne _ _ _ _ _ _ _ _ _ _ _ _ R
  obtain ⟨ob, np, dl, da, hd, bl, ba, fr, nod⟩ := R
  have nod' := nod
  rw [List.nodup_cons, List.nodup_cons] at nod'
  obtain ⟨n1, n2, n4⟩ := nod'
  have kp1 : Keep H' (upd H' lb (.lst ((xs.map fun x => V.ref x.b).reverse ++ [V.ref x.b]))) := Keep.wr (e _ _ bl) (by intro xs z; cases z)
  have kp := e.keep.trans kp1
  have new : ∀ a ∈ x.own b, a ≠ ld ∧ a ≠ lb ∧ a ∉ own := fun a ha => by
    have z := hn a ha
    refine ⟨fun e => ?_, fun e => ?_, fun e => ?_⟩
    · rw [e, dl] at z
      cases z
    · rw [e, bl] at z
      cases z
    · obtain ⟨l, hl'⟩ := hl a (List.mem_cons_of_mem _ (List.mem_cons_of_mem _ e))
      rw [hl'] at z
      cases z
  refine ⟨x.own b ++ own, ?_, np, ?_, da.mono kp, hd.mono kp, ?_, .cons (hb.mono kp1 fun a ha o q => ?_) (ba.mono kp fun a ha o q => ?_), fun a ha => ?_, ?_⟩
  · rw [upd_ne (hp (by simp))]
    exact e _ _ ob
  · rw [upd_ne (show ld ≠ lb from fun z => n1 (by rw [z]; exact List.mem_cons_self ..))]
    exact e _ _ dl
  · rw [upd_same, List.map_cons, List.reverse_cons]
  · rw [upd_ne (new a ha).2.1]
    exact q
  · rw [upd_ne (show a ≠ lb from fun z => n2 (by rw [← z]; exact ha))]
    exact e _ _ q
  · simp only [List.mem_cons, List.mem_append] at ha
    rcases ha with rfl | rfl | ha | ha
    · exact fr _ (by simp)
    · exact fr _ (by simp)
    · exact h0.free (hn a ha)
    · exact fr a (by simp [ha])
  · rw [List.nodup_cons, List.nodup_cons, List.nodup_append]
    refine ⟨fun z => ?_, fun z => ?_, nd, n4, fun a ha d hd e => (new a ha).2.2 (e ▸ hd)⟩
    · simp only [List.mem_cons, List.mem_append] at z
      rcases z with z | z | z
      · exact n1 (z ▸ List.mem_cons_self ..)
      · exact (new _ z).1 rfl
      · exact n1 (List.mem_cons_of_mem _ z)
    · rcases List.mem_append.mp z with z | z
      · exact (new _ z).2.1 rfl
      · exact n2 z
end
theorem last_at (x : BA) (xs : List BA) : atI ((x :: xs).map fun x => V.ref x.b).reverse (-1) = some (V.ref x.b) := by
  rw [List.map_cons, List.reverse_cons]
  exact atI_last _ _
end Cf


set_option Elab.async false
set_option linter.all false
set_option autoImplicit false
set_option maxRecDepth 100000
set_option maxHeartbeats 2000000
/-! Reading: __init__, turned_over, laid, closed. -/
namespace Cf
open PySem PySem.Spec PyProof.Rows L2
open TL (numL)
/-- what the walk asks of the class -/
structure TxR (K : PySem.W.Frag) (mg : Str → Option Value) (C : Addr) : Prop where
  cl : Cls K C
  nD : NoAttr K C "read_deeds"
  nH : NoAttr K C "head"
  nB : NoAttr K C "blocks"
  nR : NoAttr K C "row_count"
  nC : NoAttr K C "call_count"
section
variable {P : Program} {w : World} {K : PySem.W.Frag} {mg : Str → Option Value} {base : Heap} {C : Addr}
/-! ### __init__ -/
def spInit (C : Addr) : Sp := fun vs H Q _ => ∃ p dx : Addr, vs = [.ref p] ∧ H p = some (.ins C dx []) ∧
  ∀ (ld lb : Addr) (H' : Hp), H ld = none → H lb = none → ld ≠ lb → (∀ b o, H b = some o → b ≠ p → H' b = some o) → H' p = some (.ins C dx (flds ld .non lb 0 0)) → H' ld = some (.lst []) → H' lb = some (.lst []) → Q .non H'
abbrev sInit : Stmt := inClass (top 38) 0
theorem scInit : FnScope ["self"] ["self"] (defScope sInit) := ⟨rfl, rfl, rfl, by decide +kernel, rfl, by decide +kernel, by decide +kernel⟩
theorem f_init (ld lb : Addr) : putF "call_count" (.int 0) (putF "row_count" (.int 0) (putF "blocks" (.ref lb) (putF "head" .non (putF "read_deeds" (.ref ld) [])))) = flds ld .non lb 0 0 := by
  have e1 : putF "read_deeds" (.ref ld) [] = [(("read_deeds" : Str), V.ref ld)] := rfl
  have e2 : putF "head" .non [(("read_deeds" : Str), V.ref ld)] = [(("read_deeds" : Str), V.ref ld), (("head" : Str), V.non)] := put_past (by decide +kernel)
  have e3 : putF "blocks" (.ref lb) [(("read_deeds" : Str), V.ref ld), (("head" : Str), V.non)] = [(("read_deeds" : Str), V.ref ld), (("head" : Str), V.non), (("blocks" : Str), V.ref lb)] :=
    (put_past (by decide +kernel)).trans (congrArg _ (put_past (by decide +kernel)))
  have e4 : putF "row_count" (.int 0) [(("read_deeds" : Str), V.ref ld), (("head" : Str), V.non), (("blocks" : Str), V.ref lb)] = [(("read_deeds" : Str), V.ref ld), (("head" : Str), V.non), (("blocks" : Str), V.ref lb), (("row_count" : Str), V.int 0)] :=
    (put_past (by decide +kernel)).trans (congrArg _ ((put_past (by decide +kernel)).trans (congrArg _ (put_past (by decide +kernel)))))
  have e5 : putF "call_count" (.int 0) [(("read_deeds" : Str), V.ref ld), (("head" : Str), V.non), (("blocks" : Str), V.ref lb), (("row_count" : Str), V.int 0)] = flds ld .non lb 0 0 :=
    (put_past (by decide +kernel)).trans (congrArg _ ((put_past (by decide +kernel)).trans (congrArg _ ((put_past (by decide +kernel)).trans (congrArg _ (put_past (by decide +kernel)))))))
  rw [e1, e2, e3, e4, e5]
theorem plen {f : Str} {v : V} {fs : List (Str × V)} {n : Nat} (h : fs.length < n) : (putF f v fs).length < n + 1 := Nat.lt_of_le_of_lt (length_putF f v fs) (Nat.succ_lt_succ h)
theorem ok_init (R : TxR K mg C) (D : Mth K C "__init__" "Reading.__init__" sInit) : CallM P w K mg base 1 C "__init__" (spInit C) := by
  refine callM_mk R.cl D (fun _ _ _ _ _ _ us hl => match us, hl with | [_], _ => rfl) scInit (fun vs H Q E h => ?_) fun f cdv A outer s H vs Q E hr h => ?_
  · obtain ⟨p, dx, rfl, _⟩ := h
    rfl
  obtain ⟨p, dx, rfl, hp, q⟩ := h
  refine ⟨_, pss_cons (ps_fld (pv 0) (pe_lst pa_nil) rfl) (pss_cons (ps_fld (pv 0) pe_non rfl) (pss_cons (ps_fld (pv 0) (pe_lst pa_nil) rfl) (pss_cons (ps_fld (pv 0) pe_int rfl) (pss_one (ps_fld (pv 0) pe_int rfl))))), ?_⟩
  refine ⟨szn 0, fun ld nld => ?_⟩
  have pld : p ≠ ld := ne_of_none hp nld
  refine ⟨_, rfl, p, C, dx, [], rfl, (by rw [upd_ne pld]; exact hp), R.cl, R.nD, (by show 0 < 1000; decide), ?_⟩
  refine ⟨_, rfl, p, C, dx, _, rfl, upd_same, R.cl, R.nH, (by show 1 < 1000; decide), ?_⟩
  refine ⟨szn 0, fun lb nlb => ?_⟩
  have plb : p ≠ lb := fun e => by
    rw [← e, upd_same] at nlb
    cases nlb
  have lne : ld ≠ lb := fun e => by
    rw [← e, upd_ne pld.symm, upd_ne pld.symm, upd_same] at nlb
    cases nlb
  have nlb0 : H lb = none := by
    rw [upd_ne plb.symm, upd_ne plb.symm, upd_ne lne.symm] at nlb
    exact nlb
  refine ⟨_, rfl, p, C, dx, _, rfl, (by rw [upd_ne plb]; exact upd_same), R.cl, R.nB, plen (n := 999) (plen (n := 998) (by decide)), ?_⟩
  refine ⟨_, rfl, p, C, dx, _, rfl, upd_same, R.cl, R.nR, plen (n := 999) (plen (n := 998) (plen (n := 997) (by decide))), ?_⟩
  refine ⟨_, rfl, p, C, dx, _, rfl, upd_same, R.cl, R.nC, plen (n := 999) (plen (n := 998) (plen (n := 997) (plen (n := 996) (by decide)))), ?_⟩
  refine q ld lb _ nld nlb0 lne (fun b o e hb => ?_) (upd_same.trans (congrArg (fun z => some (HO.ins C dx z)) (f_init ld lb))) ?_ ?_
  · have b1 : b ≠ ld := ne_of_none e nld
    have b2 : b ≠ lb := ne_of_none e nlb0
    rw [upd_ne hb, upd_ne hb, upd_ne hb, upd_ne b2, upd_ne hb, upd_ne hb, upd_ne b1]
    exact e
  · rw [upd_ne pld.symm, upd_ne pld.symm, upd_ne pld.symm, upd_ne lne, upd_ne pld.symm, upd_ne pld.symm, upd_same]
  · rw [upd_ne plb.symm, upd_ne plb.symm, upd_ne plb.symm, upd_same]
/-! ### turned_over -/
def spTurned (C : Addr) : Sp := fun vs H Q _ => ∃ (H0 : Hp) (p : Addr) (s s' : RS), vs = [.ref p] ∧ Same H0 H ∧ RD C H0 H p s ∧ Step s .els s' ∧ ∀ H', Same H0 H' → RD C H0 H' p s' → Q (.bl true) H'
abbrev sTurned : Stmt := inClass (top 38) 4
theorem scTurned : FnScope ["self", "block"] ["self"] (defScope sTurned) := ⟨rfl, rfl, rfl, by decide +kernel, rfl, by decide +kernel, by decide +kernel⟩
theorem ok_turned (R : TxR K mg C) (D : Mth K C "turned_over" "Reading.turned_over" sTurned) : CallM P w K mg base 1 C "turned_over" (spTurned C) := by
  refine callM_mk R.cl D (fun _ _ _ _ _ _ us hl => match us, hl with | [_], _ => rfl) scTurned (fun vs H Q E h => ?_) fun f cdv A outer s H vs Q E hr h => ?_
  · obtain ⟨H0, p, s, s', rfl, _⟩ := h
    rfl
  obtain ⟨H0, p, st, st', rfl, h0, ⟨dx, ld, lb, vh, vds, xs, own, X⟩, hs, q⟩ := h
  refine ⟨_, pss_cons (ps_set (i := 1) scTurned.nd rfl (.inl rfl) (pe_ix ix_list (pe_fld (pv 0) rfl) (pe_un un_neg pe_int) (fun _ _ => rfl)))
    (pss_cons (ps_if (PW.pt (pw_or (pt_cmpR op_ne (pe_ix ix_list (pv 1) pe_int (fun _ _ => rfl)) pe_str (nomark _)) (pw_or1 (pt_cmp (pc_notN (pe_ix ix_list (pv 1) pe_int (fun _ _ => rfl))))))) (pss_one (ps_ret pe_bl)) pss_nil)
    (pss_cons (ps_asg (pe_lst pa_nil) (pg_sub (pv 1) pe_int set_list))
    (pss_one (ps_ret pe_bl)))), ?_⟩
  cases hs with
  | @els ds h bs r c e rs =>
  cases xs with
  | nil =>
    have := X.ba.len
    cases this
  | cons x xs =>
    obtain ⟨ve, vr, b1, b2, b3, b4⟩ : BlkAt H x (.whenA e rs) := by
      have := X.ba
      cases this with
      | cons z _ => exact z
    refine ⟨_, rfl, p, C, dx, _, _, rfl, X.ob, R.cl, R.nB, f_blocks, 1, rfl, lb, _, (-1), _, rfl, rfl, SqL.of X.bl, last_at x xs, ?_⟩
    refine ⟨_, rfl, x.b, _, 0, _, rfl, rfl, SqL.of b1, atI_nat (j := 0) rfl, rfl, _, rfl, ifF (by decide +kernel) ?_⟩
    refine ⟨_, rfl, x.b, _, 3, _, rfl, rfl, SqL.of b1, atI_nat (j := 3) rfl, _, rfl, ifF rfl ?_⟩
    refine ⟨szn 0, fun o no => ?_⟩
    have s1 := same_upd (o := .lst []) no
    have xo : x.b ≠ o := ne_of_none b1 no
    have xr : x.r ≠ o := ne_of_none b3 no
    have xrb : x.r ≠ x.b := by
      have nd := X.nd
      have := X.ba
      cases this with
      | cons _ _ =>
        intro z
        rw [List.nodup_cons, List.nodup_cons, List.nodup_append] at nd
        have := nd.2.2.1
        simp only [BA.own, z, List.nodup_cons, List.mem_singleton, not_true, false_and] at this
    refine ⟨_, rfl, x.b, _, 3, 3, rfl, rfl, s1 _ _ b1, rfl, ?_⟩
    have hfr : Fr (x.own (.whenA e rs)) H (upd (upd H o (.lst [])) x.b (.lst [.str "when", ve, .ref x.r, .ref o])) := fun a u ha hn => by
      have n1 : a ≠ x.b := fun z => hn (by simp [BA.own, z])
      rw [upd_ne n1]
      exact s1 _ _ ha
    have kp : Keep H (upd (upd H o (.lst [])) x.b (.lst [.str "when", ve, .ref x.r, .ref o])) := s1.keep.trans (Keep.wr (s1 _ _ b1) (by intro xs z; cases z))
    obtain ⟨own', X'⟩ := X.top (x' := ⟨x.b, x.r, o⟩) (b' := .whenB e rs []) h0 hfr ⟨ve, vr, [], upd_same, b2.mono kp, by rw [upd_ne xrb]; exact s1 _ _ b3, b4.mono kp, by rw [upd_ne xo.symm]; exact upd_same, .nil⟩ rfl
      (fun a ha => by
        simp only [BA.own, List.mem_cons, List.not_mem_nil, or_false] at ha
        rcases ha with rfl | rfl | rfl
        · exact .inl (by simp [BA.own])
        · exact .inl (by simp [BA.own])
        · exact .inr no)
      (by simp [BA.own, xrb.symm, xo, xr])
    refine q _ (same_of (fun a ha => X.fresh a ?_) h0 hfr) ⟨_, _, _, _, _, _, _, X'⟩
    have := X.ba
    cases this with
    | cons _ _ => exact List.mem_cons_of_mem _ (List.mem_cons_of_mem _ (List.mem_append_left _ ha))
end
end Cf


set_option Elab.async false
set_option linter.all false
set_option autoImplicit false
set_option maxRecDepth 100000
set_option maxHeartbeats 2000000
/-! Reading: laid, closed. -/
namespace Cf
open PySem PySem.Spec PyProof.Rows L2
open TL (numL)
theorem encRs_len (rs : List Rw) : (encRs rs).length = rs.length := by rw [encRs_map, List.length_map]
/-- a row more in a block -/
theorem BlkAt.add {H : Hp} {x : BA} {b : Blk} (h : BlkAt H x b) (nd : (x.own b).Nodup) {r : Rw} {v : V} (hv : At H v r.enc) :
    ∃ (wd ve vo : V) (t : Addr) (vs : List V), H x.b = some (.lst [wd, ve, .ref x.r, vo]) ∧ ((vo = .non ∧ t = x.r) ∨ (vo = .ref x.o ∧ t = x.o)) ∧ t ∈ x.own b ∧ H t = some (.lst vs) ∧ vs.length ≤ b.len ∧
      BlkAt (upd H t (.lst (vs ++ [v]))) x (b.lay [r]) ∧ x.own (b.lay [r]) = x.own b := by
  have e1 : encRs [r] = [r.enc] := by simp [encRs]
  cases b with
  | deed rs =>
    obtain ⟨vs, h1, h2, h3⟩ := h
    have ne : x.b ≠ x.r := by simpa [BA.own] using nd
    have kp : Keep H (upd H x.r (.lst (vs ++ [v]))) := Keep.wr h2 (by intro xs z; cases z)
    refine ⟨_, _, _, x.r, vs, h1, .inl ⟨rfl, rfl⟩, by simp [BA.own], h2, by rw [h3.len, encRs_len]; exact Nat.le_refl _, ⟨vs ++ [v], ?_, upd_same, ?_⟩, rfl⟩
    · rw [upd_ne ne]
      exact h1
    · rw [encRs_app, e1]
      exact (h3.snoc hv).mono kp
  | turn e rs =>
    obtain ⟨ve, vs, h1, h2, h3, h4⟩ := h
    have ne : x.b ≠ x.r := by simpa [BA.own] using nd
    have kp : Keep H (upd H x.r (.lst (vs ++ [v]))) := Keep.wr h3 (by intro xs z; cases z)
    refine ⟨_, _, _, x.r, vs, h1, .inl ⟨rfl, rfl⟩, by simp [BA.own], h3, by rw [h4.len, encRs_len]; exact Nat.le_refl _, ⟨ve, vs ++ [v], ?_, h2.mono kp, upd_same, ?_⟩, rfl⟩
    · rw [upd_ne ne]
      exact h1
    · rw [encRs_app, e1]
      exact (h4.snoc hv).mono kp
  | whenA e rs =>
    obtain ⟨ve, vs, h1, h2, h3, h4⟩ := h
    have ne : x.b ≠ x.r := by simpa [BA.own] using nd
    have kp : Keep H (upd H x.r (.lst (vs ++ [v]))) := Keep.wr h3 (by intro xs z; cases z)
    refine ⟨_, _, _, x.r, vs, h1, .inl ⟨rfl, rfl⟩, by simp [BA.own], h3, by rw [h4.len, encRs_len]; exact Nat.le_refl _, ⟨ve, vs ++ [v], ?_, h2.mono kp, upd_same, ?_⟩, rfl⟩
    · rw [upd_ne ne]
      exact h1
    · rw [encRs_app, e1]
      exact (h4.snoc hv).mono kp
  | whenB e rs os =>
    obtain ⟨ve, vs, us, h1, h2, h3, h4, h5, h6⟩ := h
    have nn : (x.b ≠ x.r ∧ x.b ≠ x.o) ∧ x.r ≠ x.o := by simpa [BA.own] using nd
    have kp : Keep H (upd H x.o (.lst (us ++ [v]))) := Keep.wr h5 (by intro xs z; cases z)
    refine ⟨_, _, _, x.o, us, h1, .inr ⟨rfl, rfl⟩, by simp [BA.own], h5, by rw [h6.len, encRs_len]; simp [Blk.len], ⟨ve, vs, us ++ [v], ?_, h2.mono kp, ?_, h4.mono kp, upd_same, ?_⟩, rfl⟩
    · rw [upd_ne nn.1.2]
      exact h1
    · rw [upd_ne nn.2]
      exact h3
    · rw [encRs_app, e1]
      exact (h6.snoc hv).mono kp
theorem RDx.cut {C : Addr} {H0 H : Hp} {p dx ld lb : Addr} {vh : V} {vds : List V} {x : BA} {xs : List BA} {own : List Addr} {ds : List Dd} {h : Option (Str × List Str)} {b : Blk} {bs : List Blk} {r c : Nat}
    (X : RDx C H0 H p dx ld lb vh vds (x :: xs) own ⟨ds, h, b :: bs, r, c⟩) : BlkAt H x b ∧ (x.own b).Nodup ∧ ∀ a ∈ x.own b, a ∈ ld :: lb :: own := by
  have nd := X.nd
  have := X.ba
  cases this with
  | cons z _ =>
    rw [List.nodup_cons, List.nodup_cons, List.nodup_append] at nd
    exact ⟨z, nd.2.2.1, fun a ha => List.mem_cons_of_mem _ (List.mem_cons_of_mem _ (List.mem_append_left _ ha))⟩
theorem RDx.some {C : Addr} {H0 H : Hp} {p dx ld lb : Addr} {vh : V} {vds : List V} {xs : List BA} {own : List Addr} {ds : List Dd} {h : Option (Str × List Str)} {b : Blk} {bs : List Blk} {r c : Nat}
    (X : RDx C H0 H p dx ld lb vh vds xs own ⟨ds, h, b :: bs, r, c⟩) : ∃ x ys, xs = x :: ys := by
  cases xs with
  | nil =>
    have := X.ba.len
    cases this
  | cons x xs => exact ⟨x, xs, rfl⟩
section
variable {P : Program} {w : World} {K : PySem.W.Frag} {mg : Str → Option Value} {base : Heap} {C : Addr}
/-! ### laid -/
def spLaid (C : Addr) : Sp := fun vs H Q _ => ∃ (H0 : Hp) (p : Addr) (v : V) (r : Rw) (ds : List Dd) (h : Option (Str × List Str)) (b : Blk) (bs : List Blk) (n c : Nat), vs = [.ref p, v] ∧ Same H0 H ∧ RD C H0 H p ⟨ds, h, b :: bs, n, c⟩ ∧ At H v r.enc ∧ b.len ≤ 1000 ∧
  ∀ H', Same H0 H' → RD C H0 H' p ⟨ds, h, b.lay [r] :: bs, n, c⟩ → Q .non H'
abbrev sLaid : Stmt := inClass (top 38) 6
theorem scLaid : FnScope ["self", "row", "block"] ["self", "row"] (defScope sLaid) := ⟨rfl, rfl, rfl, by decide +kernel, rfl, by decide +kernel, by decide +kernel⟩
theorem ok_laid (R : TxR K mg C) (D : Mth K C "laid" "Reading.laid" sLaid) : CallM P w K mg base 1 C "laid" (spLaid C) := by
  refine callM_mk R.cl D (fun _ _ _ _ _ _ us hl => match us, hl with | [_, _], _ => rfl) scLaid (fun vs H Q E h => ?_) fun f cdv A outer s H vs Q E hr h => ?_
  · obtain ⟨H0, p, v, r, ds, h, b, bs, n, c, rfl, _⟩ := h
    rfl
  obtain ⟨H0, p, v, r, ds, h, b, bs, n, c, rfl, h0, ⟨dx, ld, lb, vh, vds, xs, own, X⟩, hv, hlen, q⟩ := h
  refine ⟨_, pss_cons (ps_set (i := 2) scLaid.nd rfl (.inl rfl) (pe_ix ix_list (pe_fld (pv 0) rfl) (pe_un un_neg pe_int) (fun _ _ => rfl)))
    (pss_one (ps_if (pt_cmp (pc_isN (pe_ix ix_list (pv 2) pe_int (fun _ _ => rfl))))
      (pss_one (ps_expr (pe_bm PySem.F.plainAttrs_list PySem.F.slot_list_append PySem.F.type_list_append mt_append (pe_ix ix_list (pv 2) pe_int (fun _ _ => rfl)) (pa_cons (pv 1) pa_nil))))
      (pss_one (ps_expr (pe_bm PySem.F.plainAttrs_list PySem.F.slot_list_append PySem.F.type_list_append mt_append (pe_ix ix_list (pv 2) pe_int (fun _ _ => rfl)) (pa_cons (pv 1) pa_nil)))))), ?_⟩
  obtain ⟨x, ys, rfl⟩ := X.some
  obtain ⟨ba, nd, mem⟩ := X.cut
  obtain ⟨wd, ve, vo, t, us, b1, ht, tm, b3, b4, b5, b6⟩ := ba.add nd hv
  refine ⟨_, rfl, p, C, dx, _, _, rfl, X.ob, R.cl, R.nB, f_blocks, 1, rfl, lb, _, (-1), _, rfl, rfl, SqL.of X.bl, last_at x ys, ?_⟩
  refine ⟨_, rfl, x.b, _, 3, _, rfl, rfl, SqL.of b1, atI_nat (j := 3) rfl, _, rfl, ?_⟩
  have hfr : Fr (x.own b) H (upd H t (.lst (us ++ [v]))) := Fr.wr tm
  obtain ⟨own', X'⟩ := X.top (x' := x) h0 hfr b5 rfl (fun a ha => .inl (by rw [← b6]; exact ha)) (by rw [b6]; exact nd)
  have fin : Q .non (upd H t (.lst (us ++ [v]))) := q _ (same_of (fun a ha => X.fresh a (mem a ha)) h0 hfr) ⟨_, _, _, _, _, _, _, X'⟩
  rcases ht with ⟨rfl, rfl⟩ | ⟨rfl, rfl⟩
  · refine ifT rfl ?_
    exact ⟨_, rfl, x.b, _, 2, _, rfl, rfl, SqL.of b1, atI_nat (j := 2) rfl, .inl ⟨rfl, _, SqL.of b3⟩, _, rfl, x.r, us, v, rfl, rfl, b3, szl (by omega), fin⟩
  · refine ifF rfl ?_
    exact ⟨_, rfl, x.b, _, 3, _, rfl, rfl, SqL.of b1, atI_nat (j := 3) rfl, .inl ⟨rfl, _, SqL.of b3⟩, _, rfl, x.o, us, v, rfl, rfl, b3, szl (by omega), fin⟩
/-! ### closed -/
def spClosed (C : Addr) : Sp := fun vs H Q _ => ∃ (H0 : Hp) (p : Addr) (s s' : RS), vs = [.ref p] ∧ Same H0 H ∧ RD C H0 H p s ∧ Sm s ∧ Step s .fin s' ∧ ∀ H', Same H0 H' → RD C H0 H' p s' → Q (.bl true) H'
abbrev sClosed : Stmt := inClass (top 38) 5
theorem scClosed : FnScope ["self", "word", "expression", "rows", "others", "row"] ["self"] (defScope sClosed) := ⟨rfl, rfl, rfl, by decide +kernel, rfl, by decide +kernel, by decide +kernel⟩
theorem drop_last (x : BA) (ys : List BA) : ((x :: ys).map fun x => V.ref x.b).reverse.dropLast = (ys.map fun x => V.ref x.b).reverse := by
  rw [List.map_cons, List.reverse_cons, List.dropLast_concat]
theorem ok_closed (T : TxA mg) (R : TxR K mg C) (D : Mth K C "closed" "Reading.closed" sClosed) (CL : CallM P w K mg base 1 C "laid" (spLaid C)) : CallM P w K mg base 2 C "closed" (spClosed C) := by
  refine callM_mk R.cl D (fun _ _ _ _ _ _ us hl => match us, hl with | [_], _ => rfl) scClosed (fun vs H Q E h => ?_) fun f cdv A outer s H vs Q E hr h => ?_
  · obtain ⟨H0, p, s, s', rfl, _⟩ := h
    rfl
  obtain ⟨H0, p, st, st', rfl, h0, ⟨dx, ld, lb, vh, vds, xs, own, X⟩, m, hs, q⟩ := h
  refine ⟨_, pss_cons (ps_asg (pe_ix ix_list (pe_fld (pv 0) rfl) (pe_un un_neg pe_int) (fun _ _ => rfl)) (pg_unl (by rfl) (pgs_cons (pg_name (i := 1) scClosed.nd rfl (.inl rfl)) (pgs_cons (pg_name (i := 2) scClosed.nd rfl (.inl rfl)) (pgs_cons (pg_name (i := 3) scClosed.nd rfl (.inl rfl)) (pgs_cons (pg_name (i := 4) scClosed.nd rfl (.inl rfl)) pgs_nil))))))
    (Evl.pss_cut (ps_if (pt_cmpR op_eq (pv 1) pe_str (nomark _)) (pss_one (ps_set (i := 5) scClosed.nd rfl (.inl rfl) (pe_tup (pa_cons pe_str (pa_cons (pv 2) (pa_cons (pe_callTy call_tuple_of (by rfl) T.tuple (by decide +kernel) (pa_cons (pv 3) pa_nil)) pa_nil))))))
      (pss_one (ps_if (PW.pt (pw_and (pt_cmpR op_eq (pv 1) pe_str (nomark _)) (pw_and1 (pt_cmp (pc_notN (pv 4))))))
        (pss_one (ps_set (i := 5) scClosed.nd rfl (.inl rfl) (pe_tup (pa_cons pe_str (pa_cons (pv 2) (pa_cons (pe_callTy call_tuple_of (by rfl) T.tuple (by decide +kernel) (pa_cons (pv 3) pa_nil)) (pa_cons (pe_callTy call_tuple_of (by rfl) T.tuple (by decide +kernel) (pa_cons (pv 4) pa_nil)) pa_nil)))))))
        (pss_one (ps_ret pe_bl)))))
    (pss_cons (ps_expr (pe_bm0 PySem.F.plainAttrs_list PySem.F.slot_list_pop PySem.F.type_list_pop mt_pop (pe_fld (pv 0) rfl)))
    (pss_cons (ps_expr (pe_cm CL hr (pv 0) (pa_cons (pv 5) pa_nil)))
    (pss_one (ps_ret pe_bl))))), ?_⟩
  -- what is behind the row's making
  have rest : ∀ (x : BA) (ys : List BA) (b0 b : Blk) (bs : List Blk) (ds : List Dd) (h : Option (Str × List Str)) (n c : Nat) (r : Rw) (σ : L2.St) (H1 : Hp) (v : V), xs = x :: ys → st = ⟨ds, h, b0 :: b :: bs, n, c⟩ → st' = ⟨ds, h, b.lay [r] :: bs, n, c⟩ → σ[0]? = some (some (.ref p)) → σ[5]? = some (some v) → Same H H1 → At H1 v r.enc →
      tSeq (tDrop (tBM0 K "list" rPop (tFld K (tVar 0) "blocks"))) (tSeq (tDrop (tMeth C "laid" (spLaid C) [] E0 (tVar 0) (tCons (tVar 5) tNil))) (tRet (tC (.bl true)))) { nx := fun _ H' => Q .non H', rt := Q } σ H1 := by
    intro x ys b0 b bs ds h n c r σ H1 v e1 e2 e3 s0 s5 s1 hv
    subst e1 e2 e3
    have X1 := X.same s1
    refine ⟨_, s0, p, C, dx, _, _, rfl, X1.ob, R.cl, R.nB, f_blocks, .inl ⟨rfl, _, SqL.of X1.bl⟩, lb, _, .ref x.b, rfl, rfl, X1.bl, ?_, ?_⟩
    · rw [List.map_cons, List.reverse_cons, List.length_append, List.length_singleton, Nat.add_sub_cancel, List.getElem?_append_right (Nat.le_refl _), Nat.sub_self]
      rfl
    rw [drop_last]
    obtain ⟨own', X2⟩ := X1.pop
    have kp : Keep H1 (upd H1 lb (.lst (ys.map fun x => V.ref x.b).reverse)) := Keep.wr X1.bl (by intro xs z; cases z)
    have s2 : Same H0 (upd H1 lb (.lst (ys.map fun x => V.ref x.b).reverse)) := (h0.trans s1).mut (X1.fresh lb (by simp))
    have hb : b.len ≤ 1000 := by
      have m1 := m.sum
      have m2 := m.rows
      simp only [List.map_cons, List.sum_cons, List.length_cons] at m1 m2
      omega
    refine ⟨_, s0, p, dx, _, rfl, X2.ob, f_no (by decide +kernel) (by decide +kernel) (by decide +kernel) (by decide +kernel) (by decide +kernel), _, s5, H0, p, v, r, ds, h, b, bs, n, c, rfl, s2, ⟨_, _, _, _, _, _, _, X2⟩, hv.mono kp, hb, fun H3 s3 R3 => ?_⟩
    exact q H3 s3 R3
  cases hs with
  | @finT ds h b bs n c e rs =>
    obtain ⟨x, ys, rfl⟩ := X.some
    obtain ⟨⟨ve, vs, b1, b2, b3, b4⟩, nd, mem⟩ := X.cut
    refine ⟨_, rfl, p, C, dx, _, _, rfl, X.ob, R.cl, R.nB, f_blocks, 1, rfl, lb, _, (-1), _, rfl, rfl, SqL.of X.bl, last_at x ys, ?_⟩
    refine ⟨x.b, _, rfl, SqL.of b1, rfl, _, _, rfl, _, _, rfl, _, _, rfl, _, _, rfl, rfl, ?_⟩
    refine ⟨fun σ' H' => ∃ v, σ' = [some (.ref p), some (.str "turn"), some ve, some (.ref x.r), some .non, some v] ∧ Same H H' ∧ At H' v (Rw.turn e rs).enc, ?_, ?_⟩
    · refine ⟨_, rfl, rfl, _, rfl, ifT (decide_eq_true rfl) ?_⟩
      refine ⟨_, rfl, _, rfl, x.r, vs, rfl, .inl ⟨SqL.of b3, fun p1 h1 => ⟨szn 3, fun p2 h2 => ?_⟩⟩⟩
      have s1 := same_upd (o := .tup vs) h1
      refine ⟨_, rfl, s1.trans (same_upd h2), ?_⟩
      unfold Rw.enc
      exact at_new h2 (.cons (.str _) (.cons (b2.mono s1.keep) (.cons (at_new h1 b4) .nil)))
    · rintro σ' H' ⟨v, rfl, s1, hv⟩
      exact rest x ys _ b bs ds _ n c _ _ _ v rfl rfl rfl rfl rfl s1 hv
  | @finW ds h b bs n c e rs os =>
    obtain ⟨x, ys, rfl⟩ := X.some
    obtain ⟨⟨ve, vs, us, b1, b2, b3, b4, b5, b6⟩, nd, mem⟩ := X.cut
    refine ⟨_, rfl, p, C, dx, _, _, rfl, X.ob, R.cl, R.nB, f_blocks, 1, rfl, lb, _, (-1), _, rfl, rfl, SqL.of X.bl, last_at x ys, ?_⟩
    refine ⟨x.b, _, rfl, SqL.of b1, rfl, _, _, rfl, _, _, rfl, _, _, rfl, _, _, rfl, rfl, ?_⟩
    refine ⟨fun σ' H' => ∃ v, σ' = [some (.ref p), some (.str "when"), some ve, some (.ref x.r), some (.ref x.o), some v] ∧ Same H H' ∧ At H' v (Rw.when e rs os).enc, ?_, ?_⟩
    · refine ⟨_, rfl, rfl, _, rfl, ifF (by decide +kernel) ?_⟩
      refine ⟨_, rfl, rfl, _, rfl, ifT (decide_eq_true rfl) ⟨_, rfl, _, rfl, ifT rfl ?_⟩⟩
      refine ⟨_, rfl, _, rfl, x.r, vs, rfl, .inl ⟨SqL.of b3, fun p1 h1 => ?_⟩⟩
      have s1 := same_upd (o := .tup vs) h1
      refine ⟨_, rfl, x.o, us, rfl, .inl ⟨SqL.of (s1 _ _ b5), fun p3 h3 => ⟨szn 4, fun p2 h2 => ?_⟩⟩⟩
      have s3 := same_upd (o := .tup us) h3
      refine ⟨_, rfl, (s1.trans s3).trans (same_upd h2), ?_⟩
      unfold Rw.enc
      exact at_new h2 (.cons (.str _) (.cons (b2.mono (s1.trans s3).keep) (.cons ((at_new h1 b4).mono s3.keep) (.cons (at_new h3 (b6.mono s1.keep)) .nil))))
    · rintro σ' H' ⟨v, rfl, s1, hv⟩
      exact rest x ys _ b bs ds _ n c _ _ _ v rfl rfl rfl rfl rfl s1 hv
end
end Cf


set_option Elab.async false
set_option linter.all false
set_option autoImplicit false
set_option maxRecDepth 100000
set_option maxHeartbeats 2000000
/-! Reading: opened, given. -/
namespace Cf
open PySem PySem.Spec PyProof.Rows L2
open TL (numL)
section
variable {P : Program} {w : World} {K : PySem.W.Frag} {mg : Str → Option Value} {base : Heap} {C : Addr}
def spOpened (C : Addr) : Sp := fun vs H Q _ => ∃ (H0 : Hp) (p a : Addr) (s s' : RS) (n : Str) (ps : List Str), vs = [.ref p, .ref a] ∧ Same H0 H ∧ RD C H0 H p s ∧ H a = some (.lst ((Ln.deed n ps).words.map V.str)) ∧ LnOk (.deed n ps) ∧ Step s (.deed n ps) s' ∧ ∀ H', Same H0 H' → RD C H0 H' p s' → Q (.bl true) H'
abbrev sOpened : Stmt := inClass (top 38) 2
theorem scOpened : FnScope ["self", "words", "word"] ["self", "words"] (defScope sOpened) := ⟨rfl, rfl, rfl, by decide +kernel, rfl, by decide +kernel, by decide +kernel⟩
theorem ok_opened (T : TxA mg) (CC : TxC mg) (R : TxR K mg C) (D : Mth K C "opened" "Reading.opened" sOpened) (CW : Call P w K mg base 1 "is_word" spWord) : CallM P w K mg base 2 C "opened" (spOpened C) := by
  refine callM_mk R.cl D (fun _ _ _ _ _ _ us hl => match us, hl with | [_, _], _ => rfl) scOpened (fun vs H Q E h => ?_) fun f cdv A outer s H vs Q E hr h => ?_
  · obtain ⟨H0, p, a, s, s', n, ps, rfl, _⟩ := h
    rfl
  obtain ⟨H0, p, a, st, st', n, ps, rfl, h0, ⟨dx, ld, lb, vh, vds, xs, own, X⟩, ha, ⟨hn, h4, hp⟩, hs, q⟩ := h
  refine ⟨_, pss_cons (ps_if (PW.pt (pw_or (pt_cmp (pc_notN (pe_fld (pv 0) rfl))) (pw_or (pt_cmpR op_eq (pe_callB call_len_seq (by rfl) T.len PySem.boot_len (pa_cons (pe_fld (pv 0) rfl) pa_nil)) (pe_k CC.md) (nomark _))
      (pw_or1 (pt_not (pt_chain op_le op_le pe_int (pe_callB call_len_seq (by rfl) T.len PySem.boot_len (pa_cons (pv 1) pa_nil)) (pe_op op_add pe_int (pe_k CC.mp)))))))) (pss_one (ps_ret pe_bl)) pss_nil)
    (pss_cons (ps_if (PW.pt (pw_or (pt_not (pt_val (pe_cl CW hr (pa_cons (pe_ix ix_list (pv 1) pe_int (fun _ _ => rfl)) (pa_cons pe_int pa_nil)))))
      (pw_or1 (pt_not (pt_val (pe_callB (cr_all rfl) (by rfl) T.all (by decide +kernel) (pa_cons
        (pe_lc (own := [("word", 2)]) (g := gName 2) (by rfl) scOpened.nd (pi_list (pe_slice sl_list (pv 1) (po_some pe_int) po_none)) (blkOk_by (own := [("word", 2)]) (N := ["self", "words", "word"]) (sc := defScope sOpened) (by decide +kernel)) (fun _ _ _ _ _ => pg_name (i := 2) scOpened.nd rfl (Or.inl rfl)) (fun _ _ _ _ _ => pts_nil)
          (fun _ _ _ _ _ => pe_cl CW hr (pa_cons (pv 2) (pa_cons pe_int pa_nil)))) pa_nil))))))) (pss_one (ps_ret pe_bl)) pss_nil)
    (pss_cons (ps_fld (pv 0) (pe_tup (pa_cons (pe_ix ix_list (pv 1) pe_int (fun _ _ => rfl)) (pa_cons (pe_callTy call_tuple_of (by rfl) T.tuple (by decide +kernel) (pa_cons (pe_slice sl_list (pv 1) (po_some pe_int) po_none) pa_nil)) pa_nil))) rfl)
    (pss_cons (ps_fld (pv 0) (pe_lst (pa_cons (pe_lst (pa_cons pe_str (pa_cons pe_non (pa_cons (pe_lst pa_nil) (pa_cons pe_non pa_nil))))) pa_nil)) rfl)
    (pss_cons (ps_fld (pv 0) pe_int rfl)
    (pss_one (ps_ret pe_bl)))))), ?_⟩
  cases hs with
  | @deed ds bs r c _ _ h8 =>
  have ha' : H a = some (.lst (V.str "deed" :: V.str n :: ps.map V.str)) := ha
  have hL : (V.str "deed" :: V.str n :: ps.map V.str).length = ps.length + 2 := by simp
  have i1 : atI (V.str "deed" :: V.str n :: ps.map V.str) 1 = some (V.str n) := atI_nat (j := 1) rfl
  have ecut : cutV (V.str "deed" :: V.str n :: ps.map V.str) (some 2) none = ps.map V.str := (cutV_drop (k := 2) (by rw [hL]; omega)).trans rfl
  have evh : vh = .non := X.hd
  subst evh
  have ed : vds.length = ds.length := by rw [X.da.len, List.length_map]
  -- self.head is not None or len(self.read_deeds) == MOST_DEEDS or not 2 <= len(words) <= 2 + MOST_PARAMS
  refine ⟨_, rfl, p, C, dx, _, _, rfl, X.ob, R.cl, R.nH, f_head, _, rfl, ifF rfl ?_⟩
  refine ⟨_, rfl, p, C, dx, _, _, rfl, X.ob, R.cl, R.nD, f_deeds, ld, vds, rfl, .inl (SqL.of X.dl), rfl, _, rfl, ifF (decide_eq_false ?_) ?_⟩
  · intro z
    have := V.int.inj z
    omega
  refine ⟨_, rfl, a, _, rfl, .inl (SqL.of ha'), _, _, rfl, rfl, _, rfl, ifT (decide_eq_true (by rw [hL]; omega)) ⟨_, _, rfl, rfl, _, _, rfl, rfl, _, rfl, ifF ?_ ?_⟩⟩
  · have e1 : decide ((((V.str "deed" :: V.str n :: ps.map V.str).length : Nat) : Int) ≤ 2 + 4) = true := decide_eq_true (by rw [hL]; omega)
    show (!decide _) = false
    rw [e1]
    rfl
  -- not is_word(words[1], 8)
  refine ⟨_, rfl, a, _, 1, _, rfl, rfl, SqL.of ha', i1, n, 8, rfl, Nat.le_trans hn.2.1 (by decide), fun H1 s1 => ⟨true, congrArg V.bl (isWord_nm hn), ifF rfl ?_⟩⟩
  -- not all([is_word(word, 4) for word in words[2:]])
  refine ⟨_, rfl, 2, rfl, a, _, rfl, SqL.of (s1 _ _ ha'), fun p2 h2 => ?_⟩
  rw [ecut]
  have s2 := same_upd (o := .lst (ps.map V.str)) h2
  have e2 : (upd H1 p2 (.lst (ps.map V.str))) p2 = some (.lst (ps.map V.str)) := upd_same
  generalize upd H1 p2 (.lst (ps.map V.str)) = H2 at s2 e2
  refine ⟨p2, rfl, ⟨_, SqL.of e2⟩, fun L hL' => ?_⟩
  refine lc_it walk_list (fun i H' => Same H2 H' ∧ H' L = some (.lst ((ps.take i).map fun z => V.bl (isWord z 4)))) ⟨same_upd hL', upd_same⟩ (fun i H' _ p => SqL.of (p.1 _ _ e2)) (fun i y Ha Hb hi p hy => ?_) (fun H3 pc => ?_)
  · obtain ⟨rfl, hy⟩ := hy
    rw [List.length_map] at hi
    have hg : ps[i]? = some ps[i] := List.getElem?_eq_getElem hi
    rw [List.getElem?_map, hg] at hy
    have ey : y = V.str ps[i] := (Option.some.inj hy).symm
    subst ey
    refine ⟨rfl, _, rfl, ps[i], 4, rfl, Nat.le_trans (hp _ (List.getElem_mem hi)).2.1 (by decide), fun H4 s4 => ?_⟩
    refine ⟨_, s4 _ _ p.2, ?_, (p.1.trans s4).mut hL', snoc_take (fun z => V.bl (isWord z 4)) hg⟩
    rw [List.length_map, List.length_take]
    exact szl (by omega)
  rw [List.length_map, List.take_of_length_le (Nat.le_refl _)] at pc
  refine ⟨L, ps.map fun z => isWord z 4, rfl, SqL.of (by rw [pc.2, List.map_map]; rfl), _, rfl, ifF ?_ ?_⟩
  · have ea : (ps.map fun z => isWord z 4).all id = true := by
      rw [List.all_map, List.all_eq_true]
      intro z hz
      exact isWord_nm (hp z hz)
    rw [ea]
    rfl
  have s13 := (s1.trans s2).trans pc.1
  have X3 := X.same s13
  -- self.head = (words[1], tuple(words[2:]))
  refine ⟨_, rfl, a, _, 1, _, rfl, rfl, SqL.of (s13 _ _ ha'), i1, _, rfl, 2, rfl, a, _, rfl, SqL.of (s13 _ _ ha'), fun p4 h4' => ?_⟩
  rw [ecut]
  have s4 := same_upd (o := .lst (ps.map V.str)) h4'
  refine ⟨p4, _, rfl, .inl ⟨SqL.of upd_same, fun p5 h5 => ⟨szn 2, fun p6 h6 => ?_⟩⟩⟩
  have s5 := same_upd (o := .tup (ps.map V.str)) h5
  have s6 := same_upd (o := .tup [V.str n, .ref p5]) h6
  have A6 := at_new (xs := [V.str n, .ref p5]) (ds := [.str n, .tuple (ps.map PyData.str)]) h6 (.cons (.str n) (.cons (at_new h5 (Ats.ofStrs ps)) .nil))
  have s46 := (s4.trans s5).trans s6
  have X6 := X3.same s46
  have hs06 := h0.trans (s13.trans s46)
  generalize upd (upd (upd H3 p4 (.lst (ps.map V.str))) p5 (.tup (ps.map V.str))) p6 (.tup [V.str n, .ref p5]) = H6 at A6 X6 hs06
  refine ⟨_, rfl, p, C, dx, _, rfl, X6.ob, R.cl, R.nH, f_len, ?_⟩
  rw [p_head]
  have k7 : Keep H6 (upd H6 p (.ins C dx (flds ld (.ref p6) lb r c))) := Keep.wr X6.ob (by intro xs z; cases z)
  have d7 : (upd H6 p (.ins C dx (flds ld (.ref p6) lb r c))) ld = some (.lst vds) := by
    rw [upd_ne (X6.pne (by simp)).symm]
    exact X6.dl
  have o7 : (upd H6 p (.ins C dx (flds ld (.ref p6) lb r c))) p = some (.ins C dx (flds ld (.ref p6) lb r c)) := upd_same
  have hs07 : Same H0 (upd H6 p (.ins C dx (flds ld (.ref p6) lb r c))) := hs06.mut X6.np
  generalize upd H6 p (.ins C dx (flds ld (.ref p6) lb r c)) = H7 at k7 d7 o7 hs07
  -- self.blocks = [["deed", None, [], None]]
  refine ⟨szn 0, fun pr hr' => ⟨szn 4, fun pb hb' => ⟨szn 1, fun pl hl' => ?_⟩⟩⟩
  have s8 := same_upd (o := .lst []) hr'
  have s9 := same_upd (o := .lst [V.str "deed", .non, .ref pr, .non]) hb'
  have s10 := same_upd (o := .lst [V.ref pb]) hl'
  have nbr : pr ≠ pb := ne_of_none upd_same hb'
  have nlr : pr ≠ pl := ne_of_none (s9 _ _ upd_same) hl'
  have nlb : pb ≠ pl := ne_of_none upd_same hl'
  have er : (upd (upd (upd H7 pr (.lst [])) pb (.lst [V.str "deed", .non, .ref pr, .non])) pl (.lst [V.ref pb])) pr = some (.lst []) := s10 _ _ (s9 _ _ upd_same)
  have eb : (upd (upd (upd H7 pr (.lst [])) pb (.lst [V.str "deed", .non, .ref pr, .non])) pl (.lst [V.ref pb])) pb = some (.lst [V.str "deed", .non, .ref pr, .non]) := s10 _ _ upd_same
  have el : (upd (upd (upd H7 pr (.lst [])) pb (.lst [V.str "deed", .non, .ref pr, .non])) pl (.lst [V.ref pb])) pl = some (.lst [V.ref pb]) := upd_same
  have s80 := (s8.trans s9).trans s10
  have f7r : H7 pr = none := hr'
  have f7b : H7 pb = none := s8.free hb'
  have f7l : H7 pl = none := (s8.trans s9).free hl'
  generalize upd (upd (upd H7 pr (.lst [])) pb (.lst [V.str "deed", .non, .ref pr, .non])) pl (.lst [V.ref pb]) = H8 at er eb el s80
  refine ⟨_, rfl, p, C, dx, _, rfl, s80 _ _ o7, R.cl, R.nB, f_len, ?_⟩
  rw [p_blocks]
  refine ⟨_, rfl, p, C, dx, _, rfl, upd_same, R.cl, R.nR, f_len, ?_⟩
  rw [p_rows]
  have npr : pr ≠ p := (ne_of_none o7 f7r).symm
  have npb : pb ≠ p := (ne_of_none o7 f7b).symm
  have npl : pl ≠ p := (ne_of_none o7 f7l).symm
  have npd : ld ≠ p := (X6.pne (by simp)).symm
  have kk : Keep H6 (upd (upd H8 p (.ins C dx (flds ld (.ref p6) pl r c))) p (.ins C dx (flds ld (.ref p6) pl 0 c))) :=
    (k7.trans s80.keep).trans ((Keep.wr (s80 _ _ o7) (by intro xs z; cases z)).trans (Keep.wr upd_same (by intro xs z; cases z)))
  refine q _ (((hs07.trans s80).mut X6.np).mut X6.np) ⟨dx, ld, pl, .ref p6, vds, [⟨pb, pr, 0⟩], [pb, pr], upd_same, X6.np, ?_, X6.da.mono kk, At.mono kk A6, ?_, ?_, ?_, ?_⟩
  · rw [upd_ne npd, upd_ne npd]
    exact s80 _ _ d7
  · rw [upd_ne npl, upd_ne npl]
    exact el
  · refine BlksAt.cons (x := ⟨pb, pr, 0⟩) (b := .deed []) (own := []) ⟨[], ?_, ?_, .nil⟩ .nil
    · show (upd (upd H8 p _) p _) pb = _
      rw [upd_ne npb, upd_ne npb]
      exact eb
    · show (upd (upd H8 p _) p _) pr = _
      rw [upd_ne npr, upd_ne npr]
      exact er
  · intro b hb
    simp only [List.mem_cons, List.not_mem_nil, or_false] at hb
    rcases hb with rfl | rfl | rfl | rfl
    · exact X6.fresh _ (by simp)
    · exact hs07.free f7l
    · exact hs07.free f7b
    · exact hs07.free f7r
  · have n1 : ld ≠ pl := ne_of_none d7 f7l
    have n2 : ld ≠ pb := ne_of_none d7 f7b
    have n3 : ld ≠ pr := ne_of_none d7 f7r
    simp [n1, n2, n3, nlr.symm, nlb.symm, nbr.symm]
end
end Cf


set_option Elab.async false
set_option linter.all false
set_option autoImplicit false
set_option maxRecDepth 100000
set_option maxHeartbeats 2000000
/-! Reading: given. -/
namespace Cf
open PySem PySem.Spec PyProof.Rows L2
open TL (numL)
section
variable {P : Program} {w : World} {K : PySem.W.Frag} {mg : Str → Option Value} {base : Heap} {C : Addr}
def spGiven (C : Addr) : Sp := fun vs H Q _ => ∃ (H0 : Hp) (p a : Addr) (s s' : RS) (e : Ex), vs = [.ref p, .ref a] ∧ Same H0 H ∧ RD C H0 H p s ∧ Sm s ∧ H a = some (.lst [.str "give", .str e.text]) ∧ ExOk 4 e ∧ Step s (.give e) s' ∧ ∀ H', Same H0 H' → RD C H0 H' p s' → Q (.bl true) H'
abbrev sGiven : Stmt := inClass (top 38) 3
theorem scGiven : FnScope ["self", "words", "expression"] ["self", "words"] (defScope sGiven) := ⟨rfl, rfl, rfl, by decide +kernel, rfl, by decide +kernel, by decide +kernel⟩
theorem at_ne {H : Hp} {v : V} {e : Ex} (h : At H v e.enc) : v ≠ .non := by
  intro z
  subst z
  cases e <;> cases h
theorem ok_given (T : TxA mg) (R : TxR K mg C) (D : Mth K C "given" "Reading.given" sGiven) (CE : Call P w K mg base 8 "expression_of" spExOf) : CallM P w K mg base 9 C "given" (spGiven C) := by
  refine callM_mk R.cl D (fun _ _ _ _ _ _ us hl => match us, hl with | [_, _], _ => rfl) scGiven (fun vs H Q E h => ?_) fun f cdv A outer s H vs Q E hr h => ?_
  · obtain ⟨H0, p, a, s, s', e, rfl, _⟩ := h
    rfl
  obtain ⟨H0, p, a, st, st', e, rfl, h0, ⟨dx, ld, lb, vh, vds, xs, own, X⟩, m, ha, hE, hs, q⟩ := h
  refine ⟨_, pss_cons (ps_set (i := 2) scGiven.nd rfl (.inl rfl) (pe_cl CE hr (pa_cons (pe_ix ix_list (pv 1) (pe_un un_neg pe_int) (fun _ _ => rfl)) pa_nil)))
    (pss_cons (ps_if (PW.pt (pw_or (pt_cmpR op_gt (pe_callB call_len_seq (by rfl) T.len PySem.boot_len (pa_cons (pe_fld (pv 0) rfl) pa_nil)) pe_int (nomark _)) (pw_or (pt_cmpR op_ne (pe_callB call_len_seq (by rfl) T.len PySem.boot_len (pa_cons (pv 1) pa_nil)) pe_int (nomark _))
      (pw_or1 (pt_cmp (pc_isN (pv 2))))))) (pss_one (ps_ret pe_bl)) pss_nil)
    (pss_cons (ps_expr (pe_bm PySem.F.plainAttrs_list PySem.F.slot_list_append PySem.F.type_list_append mt_append (pe_fld (pv 0) rfl) (pa_cons
      (pe_op op_catT (pe_fld (pv 0) rfl) (pe_tup (pa_cons (pe_callTy call_tuple_of (by rfl) T.tuple (by decide +kernel) (pa_cons (pe_ix ix_list (pe_ix ix_list (pe_fld (pv 0) rfl) pe_int (fun _ _ => rfl)) pe_int (fun _ _ => rfl)) pa_nil)) (pa_cons (pv 2) pa_nil)))) pa_nil)))
    (pss_cons (ps_fld (pv 0) pe_non rfl)
    (pss_one (ps_ret pe_bl))))), ?_⟩
  cases hs with
  | @give ds rs r c n ps _ =>
  obtain ⟨x, ys, rfl⟩ := X.some
  have hy : ys = [] := by
    have := X.ba.len
    cases ys with
    | nil => rfl
    | cons y ys => simp at this
  subst hy
  -- expression = expression_of(words[-1])
  refine ⟨_, rfl, 1, rfl, a, _, (-1), _, rfl, rfl, SqL.of ha, atI_last [V.str "give"] _, e, rfl, hE, fun H1 ve s1 Ae => ?_⟩
  have X1 := X.same s1
  obtain ⟨⟨vr, b1, b2, b3⟩, nd, mem⟩ := X1.cut
  -- len(self.blocks) > 1 or len(words) != 2 or expression is None
  refine ⟨_, rfl, p, C, dx, _, _, rfl, X1.ob, R.cl, R.nB, f_blocks, lb, _, rfl, .inl (SqL.of X1.bl), _, _, rfl, rfl, _, rfl, ifF (by rfl) ?_⟩
  refine ⟨_, rfl, a, _, rfl, .inl (SqL.of (s1 _ _ ha)), rfl, _, rfl, ifF (by rfl) ?_⟩
  refine ⟨_, rfl, _, rfl, ifF (decide_eq_false (at_ne Ae)) ?_⟩
  -- self.read_deeds.append(self.head + (tuple(self.blocks[0][2]), expression))
  obtain ⟨ah, vt, evh, eah, at1⟩ := At.inv (show At H1 vh (.tuple [.str n, .tuple (ps.map PyData.str)]) from X1.hd)
  obtain ⟨v1, vt, rfl, a1, at2⟩ := at1.inv
  obtain ⟨v2, vt, rfl, a2, at3⟩ := at2.inv
  cases at3.inv0
  cases a1.ofStr
  subst evh
  refine ⟨_, rfl, p, C, dx, _, _, rfl, X1.ob, R.cl, R.nD, f_deeds, .inl ⟨rfl, _, SqL.of X1.dl⟩, ?_⟩
  refine ⟨_, rfl, p, C, dx, _, _, rfl, X1.ob, R.cl, R.nH, f_head, ?_⟩
  refine ⟨_, rfl, p, C, dx, _, _, rfl, X1.ob, R.cl, R.nB, f_blocks, lb, _, 0, _, rfl, rfl, SqL.of X1.bl, atI_nat (j := 0) rfl, x.b, _, 2, _, rfl, rfl, SqL.of b1, atI_nat (j := 2) rfl, x.r, vr, rfl, .inl ⟨SqL.of b2, fun p2 h2 => ?_⟩⟩
  have s2 := same_upd (o := .tup vr) h2
  refine ⟨_, rfl, szn 2, fun p3 h3 => ?_⟩
  have s3 := same_upd (o := .tup [V.ref p2, ve]) h3
  have A2 := at_new h2 b3
  have s23 := s2.trans s3
  have e3 : (upd (upd H1 p2 (.tup vr)) p3 (.tup [V.ref p2, ve])) p3 = some (.tup [V.ref p2, ve]) := upd_same
  refine ⟨ah, p3, _, _, rfl, rfl, SqT.of (s23 _ _ eah), SqT.of e3, (by intro z; cases z), (by show 4 ≤ sizeLine; decide), (fun z => by cases z), fun _ p4 h4 => ?_⟩
  have s4 := same_upd (o := .tup ([V.str n, v2] ++ [V.ref p2, ve])) h4
  have A4 : At (upd (upd (upd H1 p2 (.tup vr)) p3 (.tup [V.ref p2, ve])) p4 (.tup ([V.str n, v2] ++ [V.ref p2, ve]))) (.ref p4) (Dd.enc ⟨n, ps, rs, e⟩) :=
    at_new h4 (.cons (.str n) (.cons (a2.mono s23.keep) (.cons (A2.mono s3.keep) (.cons (Ae.mono s23.keep) .nil))))
  have s24 := s23.trans s4
  have X4 := X1.same s24
  have hs4 := (h0.trans s1).trans s24
  generalize upd (upd (upd H1 p2 (.tup vr)) p3 (.tup [V.ref p2, ve])) p4 (.tup ([V.str n, v2] ++ [V.ref p2, ve])) = H4 at A4 X4 hs4
  have ed : vds.length = ds.length := by rw [X4.da.len, List.length_map]
  have h8 := m.deeds
  simp only at h8
  refine ⟨ld, vds, .ref p4, rfl, rfl, X4.dl, szl (by omega), ?_⟩
  have k5 : Keep H4 (upd H4 ld (.lst (vds ++ [V.ref p4]))) := Keep.wr X4.dl (by intro xs z; cases z)
  have npd : p ≠ ld := X4.pne (by simp)
  refine ⟨_, rfl, p, C, dx, _, rfl, (by rw [upd_ne npd]; exact X4.ob), R.cl, R.nH, f_len, ?_⟩
  rw [p_head]
  have k6 : Keep (upd H4 ld (.lst (vds ++ [V.ref p4]))) (upd (upd H4 ld (.lst (vds ++ [V.ref p4]))) p (.ins C dx (flds ld .non lb r c))) :=
    Keep.wr (by rw [upd_ne npd]; exact X4.ob) (by intro xs z; cases z)
  have kk := k5.trans k6
  have nd4 := X4.nd
  have st : ∀ b ∈ lb :: own, ∀ o, H4 b = some o → (upd (upd H4 ld (.lst (vds ++ [V.ref p4]))) p (.ins C dx (flds ld .non lb r c))) b = some o := fun b hb o eb => by
    have n1 : b ≠ p := (X4.pne (List.mem_cons_of_mem _ hb)).symm
    have n2 : b ≠ ld := fun z => (List.nodup_cons.mp nd4).1 (z ▸ hb)
    rw [upd_ne n1, upd_ne n2]
    exact eb
  refine q _ ((hs4.mut (X4.fresh ld (by simp))).mut X4.np) ⟨dx, ld, lb, .non, vds ++ [.ref p4], [x], own, upd_same, X4.np, ?_, ?_, rfl, st lb (by simp) _ X4.bl, X4.ba.mono kk fun b hb o eb => st b (by simp [hb]) o eb, X4.fresh, X4.nd⟩
  · rw [upd_ne npd.symm]
    exact upd_same
  · rw [List.map_append]
    exact (X4.da.mono kk).snoc (A4.mono kk)
end
end Cf


set_option Elab.async false
set_option linter.all false
set_option autoImplicit false
set_option maxRecDepth 100000
set_option maxHeartbeats 2000000
/-! Reading: row_taken. -/
namespace Cf
open PySem PySem.Spec PyProof.Rows L2
open TL (numL)
/-- the word of a row -/
def Rw.word : Rw → Str
  | .set _ _ => "set"
  | .say _ => "say"
  | .call _ _ _ _ => "call"
  | .when _ _ _ => "when"
  | .turn _ _ => "turn"
theorem at_word {H : Hp} {v : V} {r : Rw} (h : At H v r.enc) : ∃ q t, v = .ref q ∧ H q = some (.tup (.str r.word :: t)) := by
  cases r <;> (
    unfold Rw.enc at h
    obtain ⟨q, xs, rfl, h1, h2⟩ := h.inv
    obtain ⟨v1, t, rfl, h3, h4⟩ := h2.inv
    cases h3.ofStr
    exact ⟨q, t, rfl, h1⟩)
section
variable {P : Program} {w : World} {K : PySem.W.Frag} {mg : Str → Option Value} {base : Heap} {C : Addr}
/-- a line that row_taken takes -/
def RowL : Ln → Prop
  | .deed _ _ => False
  | .give _ => False
  | .els => False
  | .fin => False
  | _ => True
theorem step_row {st st' : RS} {l : Ln} (hs : Step st l st') (hR : RowL l) :
    (∃ (r : Rw) (ds : List Dd) (h : Str × List Str) (b : Blk) (bs : List Blk) (n c k : Nat), PlainR l r ∧ st = ⟨ds, some h, b :: bs, n, c⟩ ∧ st' = ⟨ds, some h, b.lay [r] :: bs, n + 1, c + k⟩ ∧ bs.length < 3 ∧ n < 20 ∧
      ((decide (V.str r.word = V.str "call") = true ∧ k = 1 ∧ c < 10) ∨ (decide (V.str r.word = V.str "call") = false ∧ k = 0)) ∧ ∃ w0 ws, l.words = w0 :: ws ∧ decide (V.str w0 = V.str "when") = false ∧ decide (V.str w0 = V.str "turn") = false) ∨
    (∃ (wd : Str) (e : Ex) (ds : List Dd) (h : Str × List Str) (b : Blk) (bs : List Blk) (n c : Nat) (blk : Blk), l.words = [wd, e.text] ∧ (LnOk l → ExOk 4 e) ∧ ((wd = ("when" : Str) ∧ blk = .whenA e []) ∨ (wd = ("turn" : Str) ∧ blk = .turn e [])) ∧
      st = ⟨ds, some h, b :: bs, n, c⟩ ∧ st' = ⟨ds, some h, blk :: b :: bs, n + 1, c⟩ ∧ bs.length < 3 ∧ n < 20) := by
  cases hs with
  | deed => exact hR.elim
  | give => exact hR.elim
  | els => exact hR.elim
  | finT => exact hR.elim
  | finW => exact hR.elim
  | @set ds h b bs r c x e h1 h2 => exact .inl ⟨.set x e, ds, h, b, bs, r, c, 0, .set x e, rfl, rfl, h1, h2, .inr ⟨(show decide (V.str ("set" : Str) = V.str "call") = false by decide +kernel), rfl⟩, _, _, rfl, by decide +kernel, by decide +kernel⟩
  | @say ds h b bs r c e h1 h2 => exact .inl ⟨.say e, ds, h, b, bs, r, c, 0, .say e, rfl, rfl, h1, h2, .inr ⟨(show decide (V.str ("say" : Str) = V.str "call") = false by decide +kernel), rfl⟩, _, _, rfl, by decide +kernel, by decide +kernel⟩
  | @call ds h b bs r c x d as m h1 h2 h3 => exact .inl ⟨.call x d as m, ds, h, b, bs, r, c, 1, .call x d as m, rfl, rfl, h1, h2, .inl ⟨decide_eq_true rfl, rfl, h3⟩, _, _, rfl, by decide +kernel, by decide +kernel⟩
  | @when ds h b bs r c e h1 h2 => exact .inr ⟨"when", e, ds, h, b, bs, r, c, _, rfl, fun z => z, .inl ⟨rfl, rfl⟩, rfl, rfl, h1, h2⟩
  | @turn ds h b bs r c e h1 h2 => exact .inr ⟨"turn", e, ds, h, b, bs, r, c, _, rfl, fun z => z, .inr ⟨rfl, rfl⟩, rfl, rfl, h1, h2⟩
def spTaken (C : Addr) : Sp := fun vs H Q _ => ∃ (H0 : Hp) (p a : Addr) (s s' : RS) (l : Ln), vs = [.ref p, .ref a] ∧ Same H0 H ∧ RD C H0 H p s ∧ Sm s ∧ H a = some (.lst (l.words.map V.str)) ∧ LnOk l ∧ RowL l ∧ Step s l s' ∧ ∀ H', Same H0 H' → RD C H0 H' p s' → Q (.bl true) H'
abbrev sTaken : Stmt := inClass (top 38) 7
theorem scTaken : FnScope ["self", "words", "expression", "row"] ["self", "words"] (defScope sTaken) := ⟨rfl, rfl, rfl, by decide +kernel, rfl, by decide +kernel, by decide +kernel⟩
theorem ok_taken (T : TxA mg) (CC : TxC mg) (R : TxR K mg C) (D : Mth K C "row_taken" "Reading.row_taken" sTaken) (CE : Call P w K mg base 8 "expression_of" spExOf) (CP : Call P w K mg base 10 "plain_row_of" spPlain) (CL : CallM P w K mg base 1 C "laid" (spLaid C)) : CallM P w K mg base 11 C "row_taken" (spTaken C) := by
  refine callM_mk R.cl D (fun _ _ _ _ _ _ us hl => match us, hl with | [_, _], _ => rfl) scTaken (fun vs H Q E h => ?_) fun f cdv A outer s H vs Q E hr h => ?_
  · obtain ⟨H0, p, a, s, s', l, rfl, _⟩ := h
    rfl
  obtain ⟨H0, p, a, st, st', l, rfl, h0, ⟨dx, ld, lb, vh, vds, xs, own, X⟩, m, ha, hl, hR, hs, q⟩ := h
  refine ⟨_, pss_cons (ps_if (PW.pt (pw_or (pt_cmpR op_gt (pe_callB call_len_seq (by rfl) T.len PySem.boot_len (pa_cons (pe_fld (pv 0) rfl) pa_nil)) (pe_k CC.mw) (nomark _)) (pw_or1 (pt_cmpR op_eq (pe_fld (pv 0) rfl) (pe_k CC.mr) (nomark _))))) (pss_one (ps_ret pe_bl)) pss_nil)
    (Evl.pss_cut (ps_if (PW.pt (pw_or (pt_cmpR op_eq (pe_ix ix_list (pv 1) pe_int (fun _ _ => rfl)) pe_str (nomark _)) (pw_or1 (pt_cmpR op_eq (pe_ix ix_list (pv 1) pe_int (fun _ _ => rfl)) pe_str (nomark _)))))
      (pss_cons (ps_set (i := 2) scTaken.nd rfl (.inl rfl) (pe_cl CE hr (pa_cons (pe_ix ix_list (pv 1) (pe_un un_neg pe_int) (fun _ _ => rfl)) pa_nil)))
      (pss_cons (ps_if (PW.pt (pw_or (pt_cmp (pc_isN (pv 2))) (pw_or1 (pt_cmpR op_ne (pe_callB call_len_seq (by rfl) T.len PySem.boot_len (pa_cons (pv 1) pa_nil)) pe_int (nomark _))))) (pss_one (ps_ret pe_bl)) pss_nil)
      (pss_one (ps_expr (pe_bm PySem.F.plainAttrs_list PySem.F.slot_list_append PySem.F.type_list_append mt_append (pe_fld (pv 0) rfl) (pa_cons
        (pe_lst (pa_cons (pe_ix ix_list (pv 1) pe_int (fun _ _ => rfl)) (pa_cons (pv 2) (pa_cons (pe_lst pa_nil) (pa_cons pe_non pa_nil))))) pa_nil))))))
      (pss_cons (ps_set (i := 3) scTaken.nd rfl (.inl rfl) (pe_cl CP hr (pa_cons (pv 1) pa_nil)))
      (pss_cons (ps_if (PW.pt (pw_or (pt_cmp (pc_isN (pv 3))) (pw_or1 (PW.pt (pw_and (pt_cmpR op_eq (pe_ix ix_tup (pv 3) pe_int (fun _ _ => rfl)) pe_str (nomark _)) (pw_and1 (pt_cmpR op_eq (pe_fld (pv 0) rfl) (pe_k CC.mc) (nomark _)))))))) (pss_one (ps_ret pe_bl)) pss_nil)
      (pss_cons (ps_fld (pv 0) (pe_op op_add (pe_fld (pv 0) rfl) (pe_callTy call_int1 (by rfl) T.int (by decide +kernel) (pa_cons (pe_cmpR op_eq (pe_ix ix_tup (pv 3) pe_int (fun _ _ => rfl)) pe_str (nomark _)) pa_nil))) rfl)
      (pss_one (ps_expr (pe_cm CL hr (pv 0) (pa_cons (pv 3) pa_nil))))))))
    (pss_cons (ps_fld (pv 0) (pe_op op_add (pe_fld (pv 0) rfl) pe_int) rfl)
    (pss_one (ps_ret pe_bl)))), ?_⟩
  -- row_count is one more, True
  have last : ∀ (σ' : L2.St) (H' : Hp) (n : Nat), st'.rows = n + 1 → σ'[0]? = some (some (.ref p)) → Same H0 H' → RD C H0 H' p { st' with rows := n } →
      tSeq (sFld K (tVar 0) (tOp (rI0 fun i j => .int (i + j)) (tFld K (tVar 0) "row_count") (tC (.int 1))) "row_count") (tRet (tC (.bl true))) { nx := fun _ H' => Q .non H', rt := Q } σ' H' := by
    rintro σ' H' n en s0 hs0 ⟨dx', ld', lb', vh', vds', xs', own', X'⟩
    refine ⟨_, s0, p, C, dx', _, _, rfl, X'.ob, R.cl, R.nR, f_rows, _, _, rfl, rfl, _, s0, p, C, dx', _, rfl, X'.ob, R.cl, R.nR, f_len, ?_⟩
    show Q (.bl true) (upd H' p (.ins C dx' (putF "row_count" (.int ((n : Int) + 1)) (flds ld' vh' lb' n st'.calls))))
    rw [p_rows]
    have X2 := X'.cnt (r := n + 1) (c := st'.calls)
    have e2 : ({ ({ st' with rows := n } : RS) with rows := n + 1, calls := st'.calls } : RS) = st' := by
      rw [← en]
    rw [e2] at X2
    exact q _ (hs0.mut X'.np) ⟨_, _, _, _, _, _, _, X2⟩
  rcases step_row hs hR with ⟨r, ds, h, b, bs, n, c, k, hp, rfl, rfl, h3, h20, hk, w0, ws, ew, hw1, hw2⟩ | ⟨wd, e, ds, h, b, bs, n, c, blk, ew, hE, hb, rfl, rfl, h3, h20⟩
  · -- set, say, call
    have lx : xs.length = bs.length + 1 := X.ba.len
    rw [ew] at ha
    have i0 : atI ((w0 :: ws).map V.str) 0 = some (V.str w0) := atI_nat (j := 0) rfl
    refine ⟨_, rfl, p, C, dx, _, _, rfl, X.ob, R.cl, R.nB, f_blocks, lb, _, rfl, .inl (SqL.of X.bl), _, _, rfl, rfl, _, rfl, ifF (decide_eq_false ?_) ?_⟩
    · rw [List.length_reverse, List.length_map]
      omega
    refine ⟨_, rfl, p, C, dx, _, _, rfl, X.ob, R.cl, R.nR, f_rows, rfl, _, rfl, ifF (decide_eq_false ?_) ?_⟩
    · intro z
      have := V.int.inj z
      simp only at this
      omega
    refine ⟨fun σ' H' => σ'[0]? = some (some (.ref p)) ∧ Same H0 H' ∧ RD C H0 H' p ⟨ds, some h, b.lay [r] :: bs, n, c + k⟩, ?_, fun σ' H' z => last σ' H' n rfl z.1 z.2.1 z.2.2⟩
    refine ⟨_, rfl, a, _, 0, _, rfl, rfl, SqL.of ha, i0, rfl, _, rfl, ifF hw1 ?_⟩
    refine ⟨_, rfl, a, _, 0, _, rfl, rfl, SqL.of ha, i0, rfl, _, rfl, ifF hw2 ?_⟩
    -- row = plain_row_of(words)
    refine ⟨_, rfl, a, l, r, rfl, by rw [ew]; exact ha, hl, hp, fun H1 v s1 Av => ?_⟩
    obtain ⟨qa, t, rfl, eq⟩ := at_word Av
    have X1 := X.same s1
    have j0 : atI (V.str r.word :: t) 0 = some (V.str r.word) := atI_nat (j := 0) rfl
    -- row is None or row[0] == "call" and self.call_count == MOST_CALLS
    refine ⟨_, rfl, _, rfl, ifF rfl ?_⟩
    have hb20 : b.len ≤ 1000 := Nat.le_trans m.blk (by decide)
    have go : tSeq (sFld K (tVar 0) (tOp (rI0 fun i j => .int (i + j)) (tFld K (tVar 0) "call_count") (tCB (fun xs H Q => (∃ i, xs = [.int i] ∧ Q (.int i) H) ∨ ∃ k, xs = [.bl k] ∧ Q (.int (if k then 1 else 0)) H) (tCons (tOp rEq (tOp (rIxT K) (tVar 3) (tC (.int 0))) (tC (.str "call"))) tNil))) "call_count")
        (tDrop (tMeth C "laid" (spLaid C) [] E0 (tVar 0) (tCons (tVar 3) tNil))) { nx := fun σ' H' => σ'[0]? = some (some (.ref p)) ∧ Same H0 H' ∧ RD C H0 H' p ⟨ds, some h, b.lay [r] :: bs, n, c + k⟩, rt := Q } [some (.ref p), some (.ref a), none, some (.ref qa)] H1 := by
      refine ⟨_, rfl, p, C, dx, _, _, rfl, X1.ob, R.cl, R.nC, f_calls, _, rfl, qa, _, 0, _, rfl, rfl, SqT.of eq, j0, rfl, .inr ⟨_, rfl, _, _, rfl, rfl, _, rfl, p, C, dx, _, rfl, X1.ob, R.cl, R.nC, f_len, ?_⟩⟩
      have ek : ((c : Nat) : Int) + (if decide (V.str r.word = V.str "call") = true then 1 else 0) = ((c + k : Nat) : Int) := by
        rcases hk with ⟨h1, rfl, _⟩ | ⟨h1, rfl⟩
        · rw [h1, if_pos rfl]
          rfl
        · rw [h1, if_neg Bool.false_ne_true]
          rfl
      show tDrop (tMeth C "laid" (spLaid C) [] E0 (tVar 0) (tCons (tVar 3) tNil)) _ _ (upd H1 p (.ins C dx (putF "call_count" (.int (((c : Nat) : Int) + (if decide (V.str r.word = V.str "call") = true then 1 else 0))) (flds ld vh lb n c))))
      rw [ek, p_calls]
      have X2 := X1.cnt (r := n) (c := c + k)
      have k2 : Keep H1 (upd H1 p (.ins C dx (flds ld vh lb n (c + k : Nat)))) := Keep.wr X1.ob (by intro xs z; cases z)
      refine ⟨_, rfl, p, dx, _, rfl, upd_same, f_no (by decide +kernel) (by decide +kernel) (by decide +kernel) (by decide +kernel) (by decide +kernel), _, rfl, H0, p, .ref qa, r, ds, some h, b, bs, n, c + k, rfl, (h0.trans s1).mut X1.np, ⟨_, _, _, _, _, _, _, X2⟩, Av.mono k2, hb20, fun H3 s3 R3 => ⟨rfl, s3, R3⟩⟩
    refine ⟨_, rfl, qa, _, 0, _, rfl, rfl, SqT.of eq, j0, rfl, _, rfl, ?_⟩
    rcases hk with ⟨h1, rfl, h2⟩ | ⟨h1, rfl⟩
    · refine ifT h1 ⟨_, rfl, p, C, dx, _, _, rfl, X1.ob, R.cl, R.nC, f_calls, rfl, _, rfl, ifF (decide_eq_false ?_) go⟩
      intro z
      have := V.int.inj z
      simp only at this
      omega
    · exact ifF h1 (ifF rfl go)
  · -- when, turn
    have lx : xs.length = bs.length + 1 := X.ba.len
    rw [ew] at ha
    have ha' : H a = some (.lst [V.str wd, V.str e.text]) := ha
    have i0 : atI [V.str wd, V.str e.text] 0 = some (V.str wd) := atI_nat (j := 0) rfl
    refine ⟨_, rfl, p, C, dx, _, _, rfl, X.ob, R.cl, R.nB, f_blocks, lb, _, rfl, .inl (SqL.of X.bl), _, _, rfl, rfl, _, rfl, ifF (decide_eq_false ?_) ?_⟩
    · rw [List.length_reverse, List.length_map]
      omega
    refine ⟨_, rfl, p, C, dx, _, _, rfl, X.ob, R.cl, R.nR, f_rows, rfl, _, rfl, ifF (decide_eq_false ?_) ?_⟩
    · intro z
      have := V.int.inj z
      simp only at this
      omega
    refine ⟨fun σ' H' => σ'[0]? = some (some (.ref p)) ∧ Same H0 H' ∧ RD C H0 H' p ⟨ds, some h, blk :: b :: bs, n, c⟩, ?_, fun σ' H' z => last σ' H' n rfl z.1 z.2.1 z.2.2⟩
    refine ⟨_, rfl, a, _, 0, _, rfl, rfl, SqL.of ha', i0, rfl, _, rfl, ?_⟩
    have go : tSeq (tAsg (tCall spExOf [] E0 (tCons (tOp (rIxL K) (tVar 1) (tUn (rU fun i => .int (-i)) (tC (.int 1)))) tNil)) (gName 2))
        (tSeq (tIfS (tOr (tB (tIsN (tVar 2))) (tTest (tOp rNe (tCB (fun xs H Q => ∃ p ys, xs = [.ref p] ∧ (SqL K H p ys ∨ SqT K H p ys) ∧ Q (.int ys.length) H) (tCons (tVar 1) tNil)) (tC (.int 2))))) (tRet (tC (.bl false))) tNext)
        (tDrop (tBM K "list" rAppend (tFld K (tVar 0) "blocks") (tCons (tLst (tCons (tOp (rIxL K) (tVar 1) (tC (.int 0))) (tCons (tVar 2) (tCons (tLst tNil) (tCons (tC .non) tNil))))) tNil))))
        { nx := fun σ' H' => σ'[0]? = some (some (.ref p)) ∧ Same H0 H' ∧ RD C H0 H' p ⟨ds, some h, blk :: b :: bs, n, c⟩, rt := Q } [some (.ref p), some (.ref a), none, none] H := by
      refine ⟨_, rfl, 1, rfl, a, _, (-1), _, rfl, rfl, SqL.of ha', atI_last [V.str wd] _, e, rfl, hE hl, fun H1 ve s1 Ae => ?_⟩
      have X1 := X.same s1
      refine ⟨_, rfl, _, rfl, ifF (decide_eq_false (at_ne Ae)) ?_⟩
      refine ⟨_, rfl, a, _, rfl, .inl (SqL.of (s1 _ _ ha')), rfl, _, rfl, ifF (by rfl) ?_⟩
      refine ⟨_, rfl, p, C, dx, _, _, rfl, X1.ob, R.cl, R.nB, f_blocks, .inl ⟨rfl, _, SqL.of X1.bl⟩, ?_⟩
      refine ⟨_, rfl, a, _, 0, _, rfl, rfl, SqL.of (s1 _ _ ha'), i0, _, rfl, szn 0, fun pr hr' => ⟨szn 4, fun pb hb' => ?_⟩⟩
      have s2 := same_upd (o := .lst []) hr'
      have s3 := same_upd (o := .lst [V.str wd, ve, .ref pr, .non]) hb'
      have s23 := s2.trans s3
      have hs1 := h0.trans s1
      refine ⟨lb, _, .ref pb, rfl, rfl, s23 _ _ X1.bl, ?_, rfl, ?_⟩
      · rw [List.length_reverse, List.length_map]
        exact szl (by omega)
      · have er : (upd (upd H1 pr (.lst [])) pb (.lst [V.str wd, ve, .ref pr, .non])) pr = some (.lst []) := s3 _ _ upd_same
        have eb : (upd (upd H1 pr (.lst [])) pb (.lst [V.str wd, ve, .ref pr, .non])) pb = some (.lst [V.str wd, ve, .ref pr, .non]) := upd_same
        have nbr : pb ≠ pr := (ne_of_none upd_same hb').symm
        have fb : H1 pb = none := s2.free hb'
        rcases hb with ⟨rfl, rfl⟩ | ⟨rfl, rfl⟩
        · obtain ⟨own', X2⟩ := X1.push (x := ⟨pb, pr, 0⟩) (b := .whenA e []) hs1 s23 ⟨ve, [], eb, Ae.mono s23.keep, er, .nil⟩ (by intro z hz; simp only [BA.own, List.mem_cons, List.not_mem_nil, or_false] at hz; rcases hz with rfl | rfl; exact fb; exact hr') (by simp [BA.own, nbr])
          exact ⟨(hs1.trans s23).mut (X1.fresh lb (by simp)), _, _, _, _, _, _, _, X2⟩
        · obtain ⟨own', X2⟩ := X1.push (x := ⟨pb, pr, 0⟩) (b := .turn e []) hs1 s23 ⟨ve, [], eb, Ae.mono s23.keep, er, .nil⟩ (by intro z hz; simp only [BA.own, List.mem_cons, List.not_mem_nil, or_false] at hz; rcases hz with rfl | rfl; exact fb; exact hr') (by simp [BA.own, nbr])
          exact ⟨(hs1.trans s23).mut (X1.fresh lb (by simp)), _, _, _, _, _, _, _, X2⟩
    rcases hb with ⟨rfl, _⟩ | ⟨rfl, _⟩
    · exact ifT (decide_eq_true rfl) (ifT rfl go)
    · exact ifF (by decide +kernel) ⟨_, rfl, a, _, 0, _, rfl, rfl, SqL.of ha', i0, rfl, _, rfl, ifT (decide_eq_true rfl) go⟩
end
end Cf


set_option Elab.async false
set_option linter.all false
set_option autoImplicit false
set_option maxRecDepth 100000
set_option maxHeartbeats 2000000
/-! Reading: takes. -/
namespace Cf
open PySem PySem.Spec PyProof.Rows L2
open TL (numL)
theorem sh_wd {w : Str} (h : Wd w) : Sh 0 (.str w) := sh_str fun c hc => by
  have := h.2 c hc
  omega
theorem sh_words {l : Ln} (h : LnOk l) : SeqAt.shaped (.list (l.words.map PyData.str)) = true := by
  refine (sh_lst (n := 0) fun d hd => ?_).shaped (by decide)
  obtain ⟨w, hw, rfl⟩ := List.mem_map.mp hd
  exact sh_wd (words_ok h w hw)
theorem sh_one (w : Str) (h : ∀ c ∈ TL.tl w, c < 1114112) : SeqAt.shaped (.list [.str w]) = true := by
  refine (sh_lst (n := 0) fun d hd => ?_).shaped (by decide)
  rw [List.mem_singleton.mp hd]
  exact sh_str h
theorem sh_else : SeqAt.shaped (.list [.str "else"]) = true := sh_one _ (by decide +kernel)
theorem sh_end : SeqAt.shaped (.list [.str "end"]) = true := sh_one _ (by decide +kernel)
/-- a line's words as data -/
theorem dp_strs {K : PySem.W.Frag} {H : Hp} : ∀ ws : List Str, DpAll K H (ws.map V.str) (ws.map PyData.str)
  | [] => .nil
  | w :: ws => .cons (.str w) (dp_strs ws)
theorem eqv_long (x y z : Str) (r : List Str) : PyData.eqv (.list ((x :: y :: r).map PyData.str)) (.list [.str z]) = false := by
  simp [PyData.eqv, PyData.eqvAll]
theorem eqv_ends : PyData.eqv (.list ([("end" : Str)].map PyData.str)) (.list [.str "else"]) = false := by
  have e : (("end" : Str) == ("else" : Str)) = false := by decide +kernel
  simp [PyData.eqv, PyData.eqvAll, e]
theorem eqv_same (x : Str) : PyData.eqv (.list ([x].map PyData.str)) (.list [.str x]) = true := by
  simp [PyData.eqv, PyData.eqvAll]
section
variable {P : Program} {w : World} {K : PySem.W.Frag} {mg : Str → Option Value} {base : Heap} {C : Addr}
def spTakes (C : Addr) : Sp := fun vs H Q _ => ∃ (H0 : Hp) (p a : Addr) (s s' : RS) (l : Ln), vs = [.ref p, .ref a] ∧ Same H0 H ∧ RD C H0 H p s ∧ Sm s ∧ H a = some (.lst (l.words.map V.str)) ∧ LnOk l ∧ Step s l s' ∧ ∀ H', Same H0 H' → RD C H0 H' p s' → Q (.bl true) H'
abbrev sTakes : Stmt := inClass (top 38) 1
theorem scTakes : FnScope ["self", "words"] ["self", "words"] (defScope sTakes) := ⟨rfl, rfl, rfl, by decide +kernel, rfl, by decide +kernel, by decide +kernel⟩
theorem ok_takes (R : TxR K mg C) (D : Mth K C "takes" "Reading.takes" sTakes) (CO : CallM P w K mg base 2 C "opened" (spOpened C)) (CG : CallM P w K mg base 9 C "given" (spGiven C)) (CT : CallM P w K mg base 1 C "turned_over" (spTurned C))
    (CC : CallM P w K mg base 2 C "closed" (spClosed C)) (CR : CallM P w K mg base 11 C "row_taken" (spTaken C)) : CallM P w K mg base 12 C "takes" (spTakes C) := by
  refine callM_mk R.cl D (fun _ _ _ _ _ _ us hl => match us, hl with | [_, _], _ => rfl) scTakes (fun vs H Q E h => ?_) fun f cdv A outer s H vs Q E hr h => ?_
  · obtain ⟨H0, p, a, s, s', l, rfl, _⟩ := h
    rfl
  obtain ⟨H0, p, a, st, st', l, rfl, h0, hRD, m, ha, hl, hs, q⟩ := h
  have hu : A.units + 3 + 64 < cLine := by
    have := hr.un
    have e : (A.deeper (envOfC "Reading.takes" (defScope sTakes) s.heap.objs.size f cdv)).units = A.units + 3 := rfl
    omega
  refine ⟨_, pss_cons (ps_if (pt_cmpR op_eq (pe_ix ix_list (pv 1) pe_int (fun _ _ => rfl)) pe_str (nomark _)) (pss_one (ps_ret (pe_cm CO hr (pv 0) (pa_cons (pv 1) pa_nil)))) pss_nil)
    (pss_cons (ps_if (pt_cmp (pc_isN (pe_fld (pv 0) rfl))) (pss_one (ps_ret pe_bl)) pss_nil)
    (pss_cons (ps_if (pt_cmpR op_eq (pe_ix ix_list (pv 1) pe_int (fun _ _ => rfl)) pe_str (nomark _)) (pss_one (ps_ret (pe_cm CG hr (pv 0) (pa_cons (pv 1) pa_nil)))) pss_nil)
    (pss_cons (ps_if (pt_cmpR (op_eqD hu) (pv 1) (pe_lst (pa_cons pe_str pa_nil)) (nomark _)) (pss_one (ps_ret (pe_cm0 CT hr (pv 0)))) pss_nil)
    (pss_cons (ps_if (pt_cmpR (op_eqD hu) (pv 1) (pe_lst (pa_cons pe_str pa_nil)) (nomark _)) (pss_one (ps_ret (pe_cm0 CC hr (pv 0)))) pss_nil)
    (pss_one (ps_ret (pe_cm CR hr (pv 0) (pa_cons (pv 1) pa_nil)))))))), ?_⟩
  obtain ⟨dx, ld, lb, vh, vds, xs, own, X⟩ := id hRD
  have no : ∀ m : Str, (m == ("read_deeds" : Str)) = false → (m == ("head" : Str)) = false → (m == ("blocks" : Str)) = false → (m == ("row_count" : Str)) = false → (m == ("call_count" : Str)) = false → (flds ld vh lb st.rows st.calls).lookup m = none := fun m => f_no
  -- the first word
  have first : ∀ w0 ws, l.words = w0 :: ws → atI (l.words.map V.str) 0 = some (V.str w0) := fun w0 ws e => by
    rw [e]
    exact atI_nat (j := 0) rfl
  have hne := words_ne l
  cases hw : l.words with
  | nil => exact absurd hw hne
  | cons w0 ws =>
    refine ⟨_, rfl, a, _, 0, _, rfl, rfl, SqL.of ha, first w0 ws hw, rfl, _, rfl, ?_⟩
    by_cases hd : ∃ n ps, l = .deed n ps
    · obtain ⟨n, ps, rfl⟩ := hd
      injection hw with e1 e2
      subst e1
      refine ifT (decide_eq_true rfl) ?_
      exact ⟨_, rfl, p, dx, _, rfl, X.ob, f_no (by decide +kernel) (by decide +kernel) (by decide +kernel) (by decide +kernel) (by decide +kernel), _, rfl, H0, p, a, st, st', n, ps, rfl, h0, hRD, ha, hl, hs, q⟩
    · -- a deed is open
      have hh : ∃ h, st.head = some h := by
        cases hs with
        | deed => exact absurd ⟨_, _, rfl⟩ hd
        | give => exact ⟨_, rfl⟩
        | els => exact ⟨_, rfl⟩
        | finT => exact ⟨_, rfl⟩
        | finW => exact ⟨_, rfl⟩
        | set => exact ⟨_, rfl⟩
        | say => exact ⟨_, rfl⟩
        | call => exact ⟨_, rfl⟩
        | when => exact ⟨_, rfl⟩
        | turn => exact ⟨_, rfl⟩
      have w0d : decide (V.str w0 = V.str "deed") = false := by
        cases l with
        | deed n ps => exact absurd ⟨_, _, rfl⟩ hd
        | _ =>
          injection hw with e1 e2
          subst e1
          decide +kernel
      have vn : vh ≠ .non := by
        obtain ⟨h, eh⟩ := hh
        have := X.hd
        rw [eh] at this
        intro z
        subst z
        cases this
      refine ifF w0d ?_
      refine ⟨_, rfl, p, C, dx, _, _, rfl, X.ob, R.cl, R.nH, f_head, _, rfl, ifF (decide_eq_false vn) ?_⟩
      refine ⟨_, rfl, a, _, 0, _, rfl, rfl, SqL.of ha, first w0 ws hw, rfl, _, rfl, ?_⟩
      by_cases hg : ∃ e, l = .give e
      · obtain ⟨e, rfl⟩ := hg
        injection hw with e1 e2
        subst e1
        refine ifT (decide_eq_true rfl) ?_
        exact ⟨_, rfl, p, dx, _, rfl, X.ob, f_no (by decide +kernel) (by decide +kernel) (by decide +kernel) (by decide +kernel) (by decide +kernel), _, rfl, H0, p, a, st, st', e, rfl, h0, hRD, m, ha, hl, hs, q⟩
      · have w0g : decide (V.str w0 = V.str "give") = false := by
          cases l with
          | deed n ps => exact absurd ⟨_, _, rfl⟩ hd
          | give e => exact absurd ⟨_, rfl⟩ hg
          | _ =>
            injection hw with e1 e2
            subst e1
            decide +kernel
        refine ifF w0g ?_
        -- words == ["else"]
        refine ⟨_, rfl, szn 1, fun p1 h1 => ?_⟩
        have s1 := same_upd (o := .lst [V.str "else"]) h1
        have e1 : (upd H p1 (.lst [V.str "else"])) p1 = some (.lst [V.str "else"]) := upd_same
        have X1 := X.same s1
        have h01 := h0.trans s1
        have ha1 := s1 _ _ ha
        generalize upd H p1 (.lst [V.str "else"]) = H1 at s1 e1 X1 h01 ha1
        refine ⟨.list (l.words.map PyData.str), .list [.str "else"], .lst (SqL.of ha1) (dp_strs _), .lst (SqL.of e1) (.cons (.str _) .nil), sh_words hl, sh_else, _, rfl, ?_⟩
        by_cases he : l = .els
        · subst he
          refine ifT (eqv_same "else") ?_
          exact ⟨_, rfl, p, dx, _, rfl, X1.ob, f_no (by decide +kernel) (by decide +kernel) (by decide +kernel) (by decide +kernel) (by decide +kernel), H0, p, st, st', rfl, h01, ⟨_, _, _, _, _, _, _, X1⟩, hs, q⟩
        · -- words == ["end"]
          have hf1 : PyData.eqv (.list (l.words.map PyData.str)) (.list [.str "else"]) = false := by
            cases l with
            | els => exact absurd rfl he
            | fin => exact eqv_ends
            | _ => exact eqv_long _ _ _ _
          refine ifF hf1 ?_
          refine ⟨_, rfl, szn 1, fun p2 h2 => ?_⟩
          have s2 := same_upd (o := .lst [V.str "end"]) h2
          have e2 : (upd H1 p2 (.lst [V.str "end"])) p2 = some (.lst [V.str "end"]) := upd_same
          have X2 := X1.same s2
          have h02 := h01.trans s2
          have ha2 := s2 _ _ ha1
          generalize upd H1 p2 (.lst [V.str "end"]) = H2 at s2 e2 X2 h02 ha2
          refine ⟨.list (l.words.map PyData.str), .list [.str "end"], .lst (SqL.of ha2) (dp_strs _), .lst (SqL.of e2) (.cons (.str _) .nil), sh_words hl, sh_end, _, rfl, ?_⟩
          by_cases hn : l = .fin
          · subst hn
            refine ifT (eqv_same "end") ?_
            exact ⟨_, rfl, p, dx, _, rfl, X2.ob, f_no (by decide +kernel) (by decide +kernel) (by decide +kernel) (by decide +kernel) (by decide +kernel), H0, p, st, st', rfl, h02, ⟨_, _, _, _, _, _, _, X2⟩, m, hs, q⟩
          · have hf2 : PyData.eqv (.list (l.words.map PyData.str)) (.list [.str "end"]) = false := by
              cases l with
              | els => exact absurd rfl he
              | fin => exact absurd rfl hn
              | _ => exact eqv_long _ _ _ _
            refine ifF hf2 ?_
            have hR : RowL l := by
              cases l with
              | deed n ps => exact hd ⟨_, _, rfl⟩
              | give e => exact hg ⟨_, rfl⟩
              | els => exact he rfl
              | fin => exact hn rfl
              | _ => trivial
            exact ⟨_, rfl, p, dx, _, rfl, X2.ob, f_no (by decide +kernel) (by decide +kernel) (by decide +kernel) (by decide +kernel) (by decide +kernel), _, rfl, H0, p, a, st, st', l, rfl, h02, ⟨_, _, _, _, _, _, _, X2⟩, m, ha2, hl, hR, hs, q⟩
end
end Cf


set_option Elab.async false
set_option linter.all false
set_option autoImplicit false
set_option maxRecDepth 100000
set_option maxHeartbeats 4000000
/-! len(set(t)), t a tuple of unlike texts. -/
namespace Cf
open PySem PySem.Spec PyProof.Rows L2
section
variable {prog : Program} {w : World} {A : Around} {R : Result → Shared → Prop} {I : Addr} {fp wr : List Addr} {G : Array GenState → Array GenState → Prop} {n : Nat} {P : Nat → Value → Prop} {St : Nat → Shared → Prop}
/-- a set at S grows by the unlike texts that a walk gives: pre are in it, rest are still to come -/
theorem grow (W : WalksS prog w A.in1 I fp wr G n P St) {S : Addr} (hS : S ∉ fp) {xs : List Str} (nd : xs.Nodup) (hn : xs.length = n) (few : n + 1 < scanBound) (val : ∀ i v, P i v → ∃ x t, xs[i]? = some x ∧ v = .str x t) :
    ∀ (rest pre : List Str) (s : Shared), pre ++ rest = xs → St pre.length s → s.heap.SetOf (PySem.strKind prog w) S (fun k => decide (k ∈ pre)) pre.length →
      (∀ s', Moved (S :: wr) G s s' → s'.heap.SetOf (PySem.strKind prog w) S (fun k => decide (k ∈ xs)) n → R (.ok (.ret .none)) s') →
      codeAny (model prog w) A (.builtin "set.update.loop" ⟨[.ref S, .ref I], []⟩) R s
  | [], pre, s, e, st, so, fin => by
    rw [List.append_nil] at e
    subst e
    rw [hn] at st so
    have nw : S ∉ wr := fun z => hS (W.sub S z)
    refine codeAny_builtin PyProof.Rows.F.entry_set_update_loop ?_
    rw [Around.under_plainId PyProof.Rows.F.plain_set_update_loop _]
    refine wpAny_bind (W.done s _ _ st fun s' mv => ?_)
    refine wpAny_pure (fin s' (mv.mono fun b hb => List.mem_cons_of_mem _ hb) ?_)
    obtain ⟨o, es, ep, tb, at_, more⟩ := so
    exact ⟨o, es, ep, tb, mv.heap S _ nw at_, more⟩
  | x :: rest, pre, s, e, st, so, fin => by
    have nw : S ∉ wr := fun z => hS (W.sub S z)
    have hl : pre.length < n := by
      rw [← hn, ← e, List.length_append, List.length_cons]
      omega
    have hx : xs[pre.length]? = some x := by
      rw [← e, List.getElem?_append_right (Nat.le_refl _), Nat.sub_self]
      rfl
    have out : x ∉ pre := fun z => by
      rw [← e, List.nodup_append] at nd
      exact nd.2.2 x z x (List.mem_cons_self ..) rfl
    refine codeAny_builtin PyProof.Rows.F.entry_set_update_loop ?_
    rw [Around.under_plainId PyProof.Rows.F.plain_set_update_loop _]
    refine wpAny_bind (W.item pre.length s _ _ hl st fun v s1 hv st1 mv => ?_)
    obtain ⟨y, t, hy, rfl⟩ := val _ _ hv
    obtain rfl : y = x := Option.some.inj (hy.symm.trans hx)
    have so1 : s1.heap.SetOf (PySem.strKind prog w) S (fun k => decide (k ∈ pre)) pre.length := by
      obtain ⟨o, es, ep, tb, at_, more⟩ := so
      exact ⟨o, es, ep, tb, mv.heap S _ nw at_, more⟩
    refine wpAny_bind (wpAny_holding ?_)
    unfold setAdd
    refine wpAny_holding (wpAny_bind ((PySem.strKind prog w).pyHash (k := y) (strKind_is _ _ _ _) ?_))
    refine wpAny_setAddHashed_of (knd := PySem.strKind prog w) (s := { s1 with toks := s1.toks + 1 }) (strKind_is _ _ _ _) rfl so1 (by omega) fun h2 but so2 => ?_
    have keep : ∀ b, b ∉ S :: wr → ∀ o, s1.heap.get? b = some o → h2.get? b = some o := fun b hb o ho => by
      rw [but.2 b fun z => hb (by rw [z]; exact List.mem_cons_self ..)]
      exact ho
    have so3 : h2.SetOf (PySem.strKind prog w) S (fun k => decide (k ∈ pre ++ [y])) (pre ++ [y]).length := by
      refine PyProof.Rows.SetOf_congr so2 (fun k => ?_) ?_
      · rw [Bool.eq_iff_iff]
        simp only [Bool.or_eq_true, decide_eq_true_eq, List.mem_append, List.mem_singleton]
      · rw [decide_eq_false out, List.length_append]
        rfl
    have go := grow W hS nd hn few val rest (pre ++ [y]) { s1 with heap := h2, toks := s1.toks + 1 } (by rw [← e]; simp)
      (by
        rw [List.length_append]
        exact W.frame _ s1 _ _ st1 (Nat.le_succ _) fun b hb o ho => by
          rw [but.2 b fun z => hS (by rw [← z]; exact hb)]
          exact ho)
      so3 fun s4 mv4 so4 => fin s4 (Moved.trans W.gtrans ((mv.mono fun b hb => List.mem_cons_of_mem _ hb).then_heap (Nat.le_succ _) fun b o hb ho => keep b hb o ho) mv4) so4
    exact wpAny_pure ⟨plainId_quiet PyProof.Rows.F.plain_set_update_loop _, go⟩
end
/-- a new set, nothing in it yet -/
abbrev bare (led : Bool) : Obj := { cls := .type "set", dict := none, data := .set #[] 0 (.fresh 0 0 led) }
theorem bare_of {P : Program} {w : World} {h : Heap} {a : Addr} {led : Bool} (e : h.get? a = some (bare led)) : h.SetOf (PySem.strKind P w) a (fun k => decide (k ∈ ([] : List Str))) ([] : List Str).length :=
  PyProof.Rows.SetOf_congr ((PyProof.Rows.setObjOf_fresh (knd := PySem.strKind P w) led).setOf e (by unfold scanBound; omega)) (fun k => by simp) rfl
theorem str_at : ∀ {us : List Value} {xs : List Str} {i : Nat} {v : Value}, PyProof.Rows.StrsAre us xs → us[i]? = some v → ∃ x t, xs[i]? = some x ∧ v = .str x t
  | _, _, i, v, .nil, e => by simp at e
  | _, _, 0, v, .cons x t r, e => ⟨x, t, rfl, (Option.some.inj (by simpa using e)).symm⟩
  | _, _, i + 1, v, .cons x t r, e => by
    obtain ⟨y, u, h1, h2⟩ := str_at (i := i) (v := v) r (by simpa using e)
    exact ⟨y, u, by simpa using h1, h2⟩
section
variable {prog : Program} {w : World} {A : Around} {E : Value → Shared → Prop} {s : Shared}
/-- what set(t) leaves: a new set of so many, all else as it was -/
def Made (prog : Program) (w : World) (s : Shared) (n : Nat) (h' : Heap) : Prop := (∃ S, h'.SetOf (PySem.strKind prog w) s.heap.objs.size S n) ∧ ∀ b o, b < s.heap.objs.size → s.heap.get? b = some o → h'.get? b = some o
theorem set_of_tuple {l : Addr} {items : Array Value} {xs : List Str} {Q : Value → Shared → Prop} (hh : A.handled = none) (hl : s.heap.IsTuple l items) (hi : PyProof.Rows.StrsAre items.toList xs) (nd : xs.Nodup) (few : xs.length ≤ 60)
    (q : ∀ (h' : Heap) (tk : Nat), Made prog w s xs.length h' → Q (.ref s.heap.objs.size) { s with heap := h', toks := tk }) : wpAny (model prog w) A (call (.type "set") [.ref l]) Q E s := by
  obtain ⟨c, tl, hmro⟩ := PySem.F.called_set.mro
  have m1 := PySem.F.called_set.made
  have m2 := PySem.F.called_set.sub
  have m3 := PySem.F.called_set.notType
  have m4 := PySem.F.called_set.canCreate
  have m5 := PySem.F.typeCall_set_1 (.ref l)
  have m6 := PySem.F.called_set.init.lookup
  have m7 := PySem.F.called_set.init.bind (.ref s.heap.objs.size)
  have lt : l < s.heap.objs.size := by
    obtain ⟨o, ho, _⟩ := hl
    exact Heap.lt_size ho
  have sz : xs.length = items.size := by rw [← PyProof.Rows.StrsAre.len_eq hi, Array.length_toList]
  refine wpAny_call (codeAny_of_tree ?_)
  show wpAny _ _ (callAny (.type "set") _) _ _ _
  refine wpAny_pure ⟨Code.quiet_builtin _ (by decide +kernel), codeAny_builtin PySem.F.entry_type_call ?_⟩
  rw [Around.under_plain (weight_type_call_type "set" [.ref l] []) rfl]
  repeat (any_goals (first | assumption | wp_step))
  refine codeAny_mono (code_set_new_1 (.ref l) (E := E) (Q₁ := fun v s1 => ∃ led : Bool, v = .ref s.heap.objs.size ∧ s1 = { s with heap := s.heap.push (bare led) }) fun led => ⟨led, rfl, rfl⟩) fun r s1 hr => ?_
  rcases r with e | fl
  · exact hr
  · cases fl with
    | ret v =>
      obtain ⟨led, rfl, rfl⟩ := hr
      have g1 : (s.heap.push (bare led)).get? s.heap.objs.size = some (bare led) := Heap.get?_push_size _ rfl
      have ty : Shared.TypeIs { s with heap := s.heap.push (bare led) } (.ref s.heap.objs.size) "set" := ⟨_, g1, rfl⟩
      repeat (any_goals (first | assumption | wp_step))
      refine codeAny_mono (codeAny_call_builtin (R := wants (fun r s2 => r = .none ∧ ∃ h' tk, s2 = { s with heap := h', toks := tk } ∧ Made prog w s xs.length h') E) PySem.F.called_set.init.plain PySem.F.entry_set_init (check_set_init_1 ty ?_)) fun r2 s2 hr2 => ?_
      · obtain ⟨⟨cls, od, dt, sl⟩, ho, hc, n, hd⟩ := hl
        simp only at hc hd
        subst hc hd
        have ho' : (s.heap.push (bare led)).get? l = some { cls := .type "tuple", dict := od, data := .seq items n, slots := sl } := Heap.get?_push_of_some _ ho
        have t1 : (s.heap.push (bare led)).IsTuple l items := ⟨_, ho', rfl, n, rfl⟩
        have t2 := PySem.F.sub_tuple_set
        have t3 := PySem.F.sub_tuple_frozenset
        have t4 : (Value.type "tuple" == Value.type "dict") = false := by decide
        unfold Builtin.«set.__init__» noKeywords Builtin.Frozenset.updateFrom
        generalize hPI : pyIter = PI
        wp_walk
        subst hPI
        refine wpAny_pyIter_tuple t1 (wpAny_bind (wpAny_runValue ?_))
        have s1z : (s.heap.push (bare led)).objs.size = s.heap.objs.size + 1 := Heap.size_push ..
        have ne1 : l ≠ (s.heap.push (bare led)).objs.size := by
          rw [s1z]
          exact Nat.ne_of_lt (Nat.lt_succ_of_lt lt)
        have ne0 : s.heap.objs.size ≠ (s.heap.push (bare led)).objs.size := by
          rw [s1z]
          exact Nat.ne_of_lt (Nat.lt_succ_self _)
        have ne2 : s.heap.objs.size ∉ [(s.heap.push (bare led)).objs.size, l] := by
          simp only [List.mem_cons, List.not_mem_nil, or_false, not_or]
          exact ⟨ne0, Nat.ne_of_gt lt⟩
        have hh3 : A.in1.in1.in1.handled = none := by simp [hh]
        refine grow ((Walks.tuple hh3 _ l ne1 items).toS) ne2 nd sz (by unfold scanBound; omega) (fun i v hv => str_at hi (by rw [Array.getElem?_toList]; exact hv)) xs [] _ rfl ⟨⟨_, Heap.get?_push_size _ rfl, rfl, rfl⟩, t1.push _⟩ (bare_of (led := led) (Heap.get?_push_of_some _ g1)) fun s3 mv so => ?_
        obtain ⟨h3, g3, d3, tk3, os3⟩ := s3
        obtain rfl : g3 = s.gens := mv.gens
        obtain rfl : d3 = s.drawn := mv.drawn
        obtain rfl : os3 = s.os := mv.os
        refine wpAny_pure (wpAny_pure ⟨rfl, h3, tk3, rfl, ⟨_, by rw [sz]; exact so⟩, fun b o hb e => ?_⟩)
        refine mv.heap b o ?_ (Heap.get?_push_of_some _ (Heap.get?_push_of_some _ e))
        simp only [List.mem_cons, List.not_mem_nil, or_false, not_or]
        exact ⟨Nat.ne_of_lt hb, by rw [s1z]; exact Nat.ne_of_lt (Nat.lt_succ_of_lt hb)⟩
      · rcases r2 with e2 | fl2
        · exact hr2
        · cases fl2 with
          | ret v2 =>
            obtain ⟨rfl, h', tk, rfl, mk⟩ := hr2
            repeat (any_goals (first | assumption | wp_step))
            exact q _ _ mk
          | _ => exact hr2.elim
    | _ => exact hr.elim
end
/-! ### the rule -/
def tLenSetT (K : PySem.W.Frag) (ta : TE) : TE := fun σ H Q => ta σ H fun x H1 => ∃ (l : Addr) (xs : List Str), x = .ref l ∧ SqT K H1 l (xs.map V.str) ∧ xs.Nodup ∧ xs.length ≤ 60 ∧ Q (.int (xs.length : Nat)) H1
theorem strs_of : ∀ {xs : List Str} {us : List Value}, Vals (xs.map V.str) us → PyProof.Rows.StrsAre us xs
  | [], _, .nil => .nil
  | x :: xs, _, .cons r t => by
    obtain ⟨k, rfl⟩ := r
    exact .cons x k (strs_of t)
theorem pe_lenSetT {X : Cx} {a : Expr} {ta : TE} {p p2 q pos : Pos} (hc : X.calm = true) (hm : X.mg "len" = none) (hm2 : X.mg "set" = none) (ha : PE X a ta) (hg : Gl X "len" := by rfl) (hg2 : Gl X "set" := by rfl)
    (na : starEach [a] X.env = (false, eval a X.env) :: starEach [] X.env := by rfl) : PE X (.Call (.Name "len" p) [.Call (.Name "set" p2) [a] [] q] [] pos) (tLenSetT X.K ta) := by
  refine ⟨fun pins s σ H Q I h => ?_⟩
  refine Call_ (ld_blt I hg hm PySem.boot_len (PyProof.Rows.callWith_builtin1 (PyProof.Rows.args_cons ?_ rfl) rfl rfl))
  refine Call_ (ld_blt I hg2 hm2 PyProof.Rows.boot_set (PyProof.Rows.callWith_type1 (PyProof.Rows.args_cons (thn (ha.run pins s σ H _ I h) fun v s1 ⟨x, H1, I1, r1, q1⟩ => PyProof.Rows.args_nil ?_) na) na rfl))
  obtain ⟨l, xs, rfl, ht, nd, few, q1⟩ := q1
  cases r1
  obtain ⟨its, r, pl, _⟩ := I1.tuple ht
  refine set_of_tuple (I1.ok.hd hc) pl (by simpa using strs_of r) nd few fun h' tk mk => PyProof.Rows.args_nil ?_
  obtain ⟨⟨S, o, es, ep, t, ho, hex, hd, _, _, _, hf, hn⟩, hk⟩ := mk
  have I2 : Inv X pins σ H1 { s1 with heap := h', toks := tk } := I1.kept fun b o e => hk b o (Heap.lt_size e) e
  exact call_len_set ho hex hd hf (by rw [hn]; omega) ⟨.int xs.length, H1, I2.tok _, ⟨_, by rw [hn]⟩, q1⟩
end Cf


set_option Elab.async false
set_option linter.all false
set_option autoImplicit false
set_option maxRecDepth 100000
set_option maxHeartbeats 2000000
/-! rows_within, read_through, rows_of. -/
namespace Cf
open PySem PySem.Spec PyProof.Rows L2
/-! ### plain: rows in reading order -/
def Rw.within : Rw → List Rw
  | .when _ rs os => rs ++ os
  | .turn _ rs => rs
  | _ => []
theorem flatRs_app : ∀ a b : List Rw, flatRs (a ++ b) = flatRs a ++ flatRs b
  | [], b => by simp [flatRs]
  | r :: a, b => by simp [flatRs, flatRs_app a b]
theorem flat_eq (r : Rw) : r.flat = r :: flatRs r.within := by
  cases r <;> simp [Rw.flat, Rw.within, flatRs, flatRs_app]
mutual
def Rw.dep : Rw → Nat
  | .set _ _ => 1
  | .say _ => 1
  | .call _ _ _ _ => 1
  | .when _ rs os => 1 + max (depRs rs) (depRs os)
  | .turn _ rs => 1 + depRs rs
def depRs : List Rw → Nat
  | [] => 0
  | r :: rs => max r.dep (depRs rs)
end
theorem depRs_app : ∀ a b : List Rw, depRs (a ++ b) = max (depRs a) (depRs b)
  | [], b => by simp [depRs]
  | r :: a, b => by
    simp only [List.cons_append, depRs, depRs_app a b]
    omega
theorem dep_within (r : Rw) : depRs r.within < r.dep := by
  cases r <;> simp [Rw.within, Rw.dep, depRs, depRs_app] <;> omega
theorem dep_mem : ∀ {rs : List Rw} {r : Rw}, r ∈ rs → r.dep ≤ depRs rs
  | [], r, h => by cases h
  | x :: rs, r, h => by
    simp only [depRs]
    rcases List.mem_cons.mp h with rfl | h
    · omega
    · have := dep_mem h
      omega
mutual
theorem dep_ok : ∀ (r : Rw) (k : Nat), RwOk k r → r.dep ≤ k + 1
  | .set _ _, k, _ => by simp [Rw.dep]
  | .say _, k, _ => by simp [Rw.dep]
  | .call _ _ _ _, k, _ => by simp [Rw.dep]
  | .when e rs os, 0, h => by
    unfold RwOk at h
    exact h.elim
  | .when e rs os, k + 1, h => by
    unfold RwOk at h
    have h1 := depRs_ok rs k h.2.1
    have h2 := depRs_ok os k h.2.2
    simp only [Rw.dep]
    omega
  | .turn e rs, 0, h => by
    unfold RwOk at h
    exact h.elim
  | .turn e rs, k + 1, h => by
    unfold RwOk at h
    have h1 := depRs_ok rs k h.2
    simp only [Rw.dep]
    omega
theorem depRs_ok : ∀ (rs : List Rw) (k : Nat), RwsOk k rs → depRs rs ≤ k + 1
  | [], k, _ => by simp [depRs]
  | r :: rs, k, h => by
    unfold RwsOk at h
    have h1 := dep_ok r k h.1
    have h2 := depRs_ok rs k h.2
    simp only [depRs]
    omega
end
mutual
theorem flat_len : ∀ r : Rw, r.flat.length = r.cnt
  | .set _ _ => by simp [Rw.flat, Rw.cnt]
  | .say _ => by simp [Rw.flat, Rw.cnt]
  | .call _ _ _ _ => by simp [Rw.flat, Rw.cnt]
  | .when e rs os => by
    have h1 := flatRs_len rs
    have h2 := flatRs_len os
    simp only [Rw.flat, Rw.cnt, List.length_cons, List.length_append]
    omega
  | .turn e rs => by
    have h1 := flatRs_len rs
    simp only [Rw.flat, Rw.cnt, List.length_cons]
    omega
theorem flatRs_len : ∀ rs : List Rw, (flatRs rs).length = cntRs rs
  | [] => by simp [flatRs, cntRs]
  | r :: rs => by
    have h1 := flat_len r
    have h2 := flatRs_len rs
    simp only [flatRs, cntRs, List.length_append]
    omega
end
theorem cntRs_app : ∀ a b : List Rw, cntRs (a ++ b) = cntRs a + cntRs b
  | [], b => by simp [cntRs]
  | r :: a, b => by
    simp only [List.cons_append, cntRs, cntRs_app a b]
    omega
theorem cnt_within (r : Rw) : cntRs r.within + 1 ≤ r.cnt := by
  cases r <;> simp [Rw.within, Rw.cnt, cntRs, cntRs_app] <;> omega
theorem cnt_mem : ∀ {rs : List Rw} {r : Rw}, r ∈ rs → r.cnt ≤ cntRs rs
  | [], r, h => by cases h
  | x :: rs, r, h => by
    simp only [cntRs]
    rcases List.mem_cons.mp h with rfl | h
    · omega
    · have := cnt_mem h
      omega
theorem len_cnt : ∀ rs : List Rw, rs.length ≤ cntRs rs
  | [] => by simp
  | r :: rs => by
    have h1 : 1 ≤ r.cnt := by cases r <;> simp [Rw.cnt] <;> omega
    have h2 := len_cnt rs
    simp only [cntRs, List.length_cons]
    omega
theorem take_more {rs : List Rw} {i : Nat} {r : Rw} (h : rs[i]? = some r) : flatRs (rs.take (i + 1)) = flatRs (rs.take i) ++ r :: flatRs r.within := by
  rw [List.take_add_one, h, flatRs_app]
  simp [flatRs, flat_eq]
theorem take_cnt (rs : List Rw) (i : Nat) : cntRs (rs.take i) ≤ cntRs rs := by
  have h : cntRs (rs.take i ++ rs.drop i) = cntRs rs := by rw [List.take_append_drop]
  rw [cntRs_app] at h
  omega
/-! ### rows in the heap -/
section
variable {H : Hp}
theorem at_set {v : V} {x : Str} {e : Ex} (h : At H v (Rw.set x e).enc) : ∃ a ve, v = .ref a ∧ H a = some (.tup [.str "set", .str x, ve]) ∧ At H ve e.enc := by
  unfold Rw.enc at h
  obtain ⟨a, xs, rfl, h1, h2⟩ := h.inv
  obtain ⟨v1, t, rfl, h3, h4⟩ := h2.inv
  obtain ⟨v2, t, rfl, h5, h6⟩ := h4.inv
  obtain ⟨v3, t, rfl, h7, h8⟩ := h6.inv
  cases h8.inv0
  cases h3.ofStr
  cases h5.ofStr
  exact ⟨a, v3, rfl, h1, h7⟩
theorem at_say {v : V} {e : Ex} (h : At H v (Rw.say e).enc) : ∃ a ve, v = .ref a ∧ H a = some (.tup [.str "say", ve]) ∧ At H ve e.enc := by
  unfold Rw.enc at h
  obtain ⟨a, xs, rfl, h1, h2⟩ := h.inv
  obtain ⟨v1, t, rfl, h3, h4⟩ := h2.inv
  obtain ⟨v2, t, rfl, h5, h6⟩ := h4.inv
  cases h6.inv0
  cases h3.ofStr
  exact ⟨a, v2, rfl, h1, h5⟩
theorem at_call {v : V} {x d : Str} {as : List Ex} {m : Nat} (h : At H v (Rw.call x d as m).enc) : ∃ a b vs, v = .ref a ∧ H a = some (.tup [.str "call", .str x, .str d, .ref b, .int m]) ∧ H b = some (.tup vs) ∧ Ats H vs (as.map Ex.enc) := by
  unfold Rw.enc at h
  obtain ⟨a, xs, rfl, h1, h2⟩ := h.inv
  obtain ⟨v1, t, rfl, h3, h4⟩ := h2.inv
  obtain ⟨v2, t, rfl, h5, h6⟩ := h4.inv
  obtain ⟨v3, t, rfl, h7, h8⟩ := h6.inv
  obtain ⟨v4, t, rfl, h9, h10⟩ := h8.inv
  obtain ⟨v5, t, rfl, h11, h12⟩ := h10.inv
  cases h12.inv0
  cases h3.ofStr
  cases h5.ofStr
  cases h7.ofStr
  cases h11.ofInt
  obtain ⟨b, ys, rfl, h13, h14⟩ := h9.inv
  exact ⟨a, b, ys, rfl, h1, h13, h14⟩
theorem at_when {v : V} {e : Ex} {rs os : List Rw} (h : At H v (Rw.when e rs os).enc) : ∃ a ve b c vs us, v = .ref a ∧ H a = some (.tup [.str "when", ve, .ref b, .ref c]) ∧ At H ve e.enc ∧ H b = some (.tup vs) ∧ Ats H vs (encRs rs) ∧ H c = some (.tup us) ∧ Ats H us (encRs os) := by
  unfold Rw.enc at h
  obtain ⟨a, xs, rfl, h1, h2⟩ := h.inv
  obtain ⟨v1, t, rfl, h3, h4⟩ := h2.inv
  obtain ⟨v2, t, rfl, h5, h6⟩ := h4.inv
  obtain ⟨v3, t, rfl, h7, h8⟩ := h6.inv
  obtain ⟨v4, t, rfl, h9, h10⟩ := h8.inv
  cases h10.inv0
  cases h3.ofStr
  obtain ⟨b, ys, rfl, h13, h14⟩ := h7.inv
  obtain ⟨c, zs, rfl, h15, h16⟩ := h9.inv
  exact ⟨a, v2, b, c, ys, zs, rfl, h1, h5, h13, h14, h15, h16⟩
theorem at_turn {v : V} {e : Ex} {rs : List Rw} (h : At H v (Rw.turn e rs).enc) : ∃ a ve b vs, v = .ref a ∧ H a = some (.tup [.str "turn", ve, .ref b]) ∧ At H ve e.enc ∧ H b = some (.tup vs) ∧ Ats H vs (encRs rs) := by
  unfold Rw.enc at h
  obtain ⟨a, xs, rfl, h1, h2⟩ := h.inv
  obtain ⟨v1, t, rfl, h3, h4⟩ := h2.inv
  obtain ⟨v2, t, rfl, h5, h6⟩ := h4.inv
  obtain ⟨v3, t, rfl, h7, h8⟩ := h6.inv
  cases h8.inv0
  cases h3.ofStr
  obtain ⟨b, ys, rfl, h13, h14⟩ := h7.inv
  exact ⟨a, v2, b, ys, rfl, h1, h5, h13, h14⟩
theorem at_dd {v : V} {d : Dd} (h : At H v d.enc) : ∃ a b c vs ve, v = .ref a ∧ H a = some (.tup [.str d.name, .ref b, .ref c, ve]) ∧ H b = some (.tup (d.params.map V.str)) ∧ H c = some (.tup vs) ∧ Ats H vs (encRs d.rows) ∧ At H ve d.give.enc := by
  unfold Dd.enc at h
  obtain ⟨a, xs, rfl, h1, h2⟩ := h.inv
  obtain ⟨v1, t, rfl, h3, h4⟩ := h2.inv
  obtain ⟨v2, t, rfl, h5, h6⟩ := h4.inv
  obtain ⟨v3, t, rfl, h7, h8⟩ := h6.inv
  obtain ⟨v4, t, rfl, h9, h10⟩ := h8.inv
  cases h10.inv0
  cases h3.ofStr
  obtain ⟨b, ys, rfl, h13, h14⟩ := h5.inv
  obtain ⟨c, zs, rfl, h15, h16⟩ := h7.inv
  rw [h14.strs] at h13
  exact ⟨a, b, c, zs, v4, rfl, h1, h13, h15, h16, h9⟩
end
section
variable {P : Program} {w : World} {K : PySem.W.Frag} {mg : Str → Option Value} {base : Heap}
/-! ### rows_within -/
def spWithin : Sp := fun vs H Q _ => ∃ (v : V) (r : Rw), vs = [v] ∧ At H v r.enc ∧ r.cnt ≤ 1000 ∧ ∀ (H' : Hp) (a : Addr) (xs : List V), Same H H' → H' a = some (.tup xs) → Ats H' xs (encRs r.within) → Q (.ref a) H'
abbrev sWithin : Stmt := top 7
theorem scWithin : FnScope ["row"] ["row"] (defScope sWithin) := ⟨rfl, rfl, rfl, by decide +kernel, rfl, by decide +kernel, by decide +kernel⟩
theorem ok_within (D : Def K mg "rows_within" sWithin) : Call P w K mg base 1 "rows_within" spWithin := by
  refine call_mk D (fun _ _ _ _ _ _ us hl => match us, hl with | [_], _ => rfl) scWithin (fun vs H Q E h => ?_) fun f cdv A outer s H vs Q E hr h => ?_
  · obtain ⟨v, r, rfl, _⟩ := h
    rfl
  obtain ⟨v, r, rfl, hv, hc, q⟩ := h
  refine ⟨_, pss_cons (ps_if (pt_cmpR op_eq (pe_ix ix_tup (pv 0) pe_int (fun _ _ => rfl)) pe_str (nomark _)) (pss_one (ps_ret (pe_op op_catA (pe_ix ix_tup (pv 0) pe_int (fun _ _ => rfl)) (pe_ix ix_tup (pv 0) pe_int (fun _ _ => rfl))))) pss_nil)
    (pss_cons (ps_if (pt_cmpR op_eq (pe_ix ix_tup (pv 0) pe_int (fun _ _ => rfl)) pe_str (nomark _)) (pss_one (ps_ret (pe_ix ix_tup (pv 0) pe_int (fun _ _ => rfl)))) pss_nil)
    (pss_one (ps_ret (pe_tup pa_nil)))), ?_⟩
  have none : ∀ (a : Addr) (wd : Str) (t : List V), v = .ref a → H a = some (.tup (.str wd :: t)) → decide (V.str wd = V.str "when") = false → decide (V.str wd = V.str "turn") = false → r.within = [] →
    (tSeq (tIfS (tTest (tOp rEq (tOp (rIxT K) (tVar 0) (tC (.int 0))) (tC (.str "when")))) (tRet (tOp (rCatA K) (tOp (rIxT K) (tVar 0) (tC (.int 2))) (tOp (rIxT K) (tVar 0) (tC (.int 3))))) tNext)
      (tSeq (tIfS (tTest (tOp rEq (tOp (rIxT K) (tVar 0) (tC (.int 0))) (tC (.str "turn")))) (tRet (tOp (rIxT K) (tVar 0) (tC (.int 2)))) tNext) (tRet (tTup tNil)))) { nx := fun _ H' => Q .non H', rt := Q } (start ["row"] [v]) H := fun a wd t e1 e2 e3 e4 e5 => by
    subst e1
    have i0 : atI (V.str wd :: t) 0 = some (V.str wd) := atI_nat (j := 0) rfl
    refine ⟨_, rfl, a, _, 0, _, rfl, rfl, SqT.of e2, i0, rfl, _, rfl, ifF e3 ?_⟩
    refine ⟨_, rfl, a, _, 0, _, rfl, rfl, SqT.of e2, i0, rfl, _, rfl, ifF e4 ?_⟩
    refine ⟨szn 0, fun p hp => q _ p [] (same_upd hp) upd_same ?_⟩
    rw [e5]
    exact .nil
  cases r with
  | set x e =>
    obtain ⟨a, ve, rfl, h1, h2⟩ := at_set hv
    exact none a _ _ rfl h1 (by decide +kernel) (by decide +kernel) rfl
  | say e =>
    obtain ⟨a, ve, rfl, h1, h2⟩ := at_say hv
    exact none a _ _ rfl h1 (by decide +kernel) (by decide +kernel) rfl
  | call x d as m =>
    obtain ⟨a, b, us, rfl, h1, h2, h3⟩ := at_call hv
    exact none a _ _ rfl h1 (by decide +kernel) (by decide +kernel) rfl
  | when e rs os =>
    obtain ⟨a, ve, b, c, us, ws, rfl, h1, h2, h3, h4, h5, h6⟩ := at_when hv
    have l1 : us.length ≤ cntRs rs := by
      rw [h4.len, encRs_map, List.length_map]
      exact len_cnt rs
    have l2 : ws.length ≤ cntRs os := by
      rw [h6.len, encRs_map, List.length_map]
      exact len_cnt os
    simp only [Rw.cnt] at hc
    refine ⟨_, rfl, a, _, 0, _, rfl, rfl, SqT.of h1, atI_nat (j := 0) rfl, rfl, _, rfl, ifT (decide_eq_true rfl) ?_⟩
    refine ⟨_, rfl, a, _, 2, _, rfl, rfl, SqT.of h1, atI_nat (j := 2) rfl, _, rfl, a, _, 3, _, rfl, rfl, SqT.of h1, atI_nat (j := 3) rfl, b, c, us, ws, rfl, rfl, SqT.of h3, SqT.of h5, sz (by omega), ?_⟩
    have eW : encRs (Rw.when e rs os).within = encRs rs ++ encRs os := encRs_app rs os
    refine ⟨fun e0 => ?_, fun _ e1 => ?_, fun _ _ p hp => ?_⟩
    · subst e0
      have : encRs rs = [] := by
        have := h4.len
        exact List.length_eq_zero_iff.mp this.symm
      refine q H c ws (Same.refl H) h5 ?_
      rw [eW, this]
      exact h6
    · subst e1
      have : encRs os = [] := by
        have := h6.len
        exact List.length_eq_zero_iff.mp this.symm
      refine q H b us (Same.refl H) h3 ?_
      rw [eW, this, List.append_nil]
      exact h4
    · refine q _ p _ (same_upd hp) upd_same ?_
      rw [eW]
      exact (h4.app h6).mono (Keep.new hp)
  | turn e rs =>
    obtain ⟨a, ve, b, us, rfl, h1, h2, h3, h4⟩ := at_turn hv
    refine ⟨_, rfl, a, _, 0, _, rfl, rfl, SqT.of h1, atI_nat (j := 0) rfl, rfl, _, rfl, ifF (by decide +kernel) ?_⟩
    refine ⟨_, rfl, a, _, 0, _, rfl, rfl, SqT.of h1, atI_nat (j := 0) rfl, rfl, _, rfl, ifT (decide_eq_true rfl) ?_⟩
    exact ⟨_, rfl, a, _, 2, _, rfl, rfl, SqT.of h1, atI_nat (j := 2) rfl, q H b us (Same.refl H) h3 h4⟩
end
end Cf


set_option Elab.async false
set_option linter.all false
set_option autoImplicit false
set_option maxRecDepth 100000
set_option maxHeartbeats 2000000
/-! read_through, rows_of, deed_of, look_at_names, look_at_call, made_book. -/
namespace Cf
open PySem PySem.Spec PyProof.Rows L2
section
variable {P : Program} {w : World} {K : PySem.W.Frag} {mg : Str → Option Value} {base : Heap}
/-! ### read_through -/
def spThrough (n : Nat) : Sp := fun vs H Q _ => ∃ (a : Addr) (xs : List V) (rs : List Rw), vs = [.ref a] ∧ H a = some (.tup xs) ∧ Ats H xs (encRs rs) ∧ depRs rs < n ∧ cntRs rs ≤ 1000 ∧
  ∀ (H' : Hp) (p : Addr) (ys : List V), Same H H' → H p = none → H' p = some (.lst ys) → Ats H' ys ((flatRs rs).map Rw.enc) → Q (.ref p) H'
abbrev sThrough : Stmt := top 8
theorem scThrough : FnScope ["rows", "found", "row"] ["rows"] (defScope sThrough) := ⟨rfl, rfl, rfl, by decide +kernel, rfl, by decide +kernel, by decide +kernel⟩
theorem ok_through (D : Def K mg "read_through" sThrough) (CW : Call P w K mg base 1 "rows_within" spWithin) : ∀ n : Nat, Call P w K mg base (n + 1) "read_through" (spThrough n)
  | 0 => (call_none (ps := ["rows"]) D (fun _ _ _ _ _ _ us hl => match us, hl with | [_], _ => rfl) fun vs H Q E h => by
      obtain ⟨a, xs, rs, _, _, _, h, _⟩ := h
      omega).mono (by omega)
  | n + 1 => by
    have CT := ok_through D CW n
    refine call_mk D (fun _ _ _ _ _ _ us hl => match us, hl with | [_], _ => rfl) scThrough (fun vs H Q E h => ?_) fun f cdv A outer s H vs Q E hr h => ?_
    · obtain ⟨a, xs, rs, rfl, _⟩ := h
      rfl
    obtain ⟨a, xs, rs, rfl, ha, hx, hd, hc, q⟩ := h
    refine ⟨_, pss_cons (ps_set (i := 1) scThrough.nd rfl (.inl rfl) (pe_lst pa_nil))
      (pss_cons (ps_for PassesOwn.never rfl (pi_tup (pv 0)) (pg_name (i := 2) scThrough.nd rfl (.inl rfl))
        (pss_cons (ps_expr (pe_bm PySem.F.plainAttrs_list PySem.F.slot_list_append PySem.F.type_list_append mt_append (pv 1) (pa_cons (pv 2) pa_nil)))
        (pss_one (ps_expr (pe_bm PySem.F.plainAttrs_list PySem.F.slot_list_extend PySem.F.type_list_extend mt_extend (pv 1) (pa_cons (pe_cl CT hr (pa_cons (pe_cl CW hr (pa_cons (pv 2) pa_nil)) pa_nil)) pa_nil))))))
      (pss_one (ps_ret (pv 1)))), ?_⟩
    refine ⟨szn 0, fun L hL => ?_⟩
    have s0 := same_upd (o := .lst []) hL
    refine ⟨_, rfl, a, rfl, ⟨xs, SqT.of (s0 _ _ ha)⟩, for_tup (K := K) (a := a) (xs := xs) (fun i σ H' => ∃ (y : Option V) (ys : List V), σ = [some (.ref a), some (.ref L), y] ∧ Same H H' ∧ H' L = some (.lst ys) ∧ Ats H' ys ((flatRs (rs.take i)).map Rw.enc))
      ⟨none, [], rfl, s0, upd_same, by simp [flatRs]; exact .nil⟩ (fun i σ H' _ ⟨_, _, _, s1, _⟩ => SqT.of (s1 _ _ ha)) ?_ ?_⟩
    · rintro i x σ H1 hi ⟨y, ys, rfl, s1, eL, AL⟩
      obtain ⟨d, hdi, Ad⟩ := hx.getV hi
      rw [encRs_map, List.getElem?_map] at hdi
      cases hri : rs[i]? with
      | none =>
        rw [hri] at hdi
        cases hdi
      | some r =>
        rw [hri] at hdi
        obtain rfl : r.enc = d := Option.some.inj hdi
        have hm : r ∈ rs := List.mem_of_getElem? hri
        have c1 := cnt_mem hm
        have c2 := cnt_within r
        have d1 := dep_mem hm
        have d2 := dep_within r
        have ln : ys.length ≤ cntRs rs := by
          rw [AL.len, List.length_map, flatRs_len]
          exact take_cnt rs i
        have lf : (flatRs (rs.take i)).length + 1 + (flatRs r.within).length ≤ cntRs rs := by
          have e := flatRs_len (rs.take (i + 1))
          rw [take_more hri, List.length_append, List.length_cons] at e
          have := take_cnt rs (i + 1)
          omega
        have ly : ys.length = (flatRs (rs.take i)).length := by rw [AL.len, List.length_map]
        -- found.append(row)
        refine ⟨_, rfl, .inl ⟨rfl, _, SqL.of eL⟩, _, rfl, L, ys, x, rfl, rfl, eL, szl (by omega), ?_⟩
        have s2 : Same H (upd H1 L (.lst (ys ++ [x]))) := s1.mut hL
        have k2 : Keep H1 (upd H1 L (.lst (ys ++ [x]))) := Keep.wr eL (by intro xs z; cases z)
        have e2 : (upd H1 L (.lst (ys ++ [x]))) L = some (.lst (ys ++ [x])) := upd_same
        have A2 : Ats (upd H1 L (.lst (ys ++ [x]))) (ys ++ [x]) ((flatRs (rs.take i)).map Rw.enc ++ [r.enc]) := (AL.snoc (Ad.mono s1.keep)).mono k2
        have Ad2 := Ad.mono s2.keep
        generalize upd H1 L (.lst (ys ++ [x])) = H2 at s2 e2 A2 Ad2
        -- found.extend(read_through(rows_within(row)))
        refine ⟨_, rfl, .inl ⟨rfl, _, SqL.of e2⟩, _, rfl, x, r, rfl, Ad2, by omega, fun H3 p3 zs s3 e3 A3 => ?_⟩
        refine ⟨p3, zs, r.within, rfl, e3, A3, by omega, by omega, fun H4 p4 us s4 n4 e4 A4 => ?_⟩
        have s24 := s3.trans s4
        have eL4 := s24 _ _ e2
        have lu : us.length = (flatRs r.within).length := by rw [A4.len, List.length_map]
        refine ⟨L, p4, ys ++ [x], us, rfl, rfl, eL4, e4, ?_, ?_⟩
        · rw [List.length_append, List.length_singleton]
          exact sz (by omega)
        refine ⟨_, (ys ++ [x]) ++ us, rfl, (s2.trans s24).mut hL, upd_same, ?_⟩
        rw [take_more hri, List.map_append, List.map_cons]
        have k5 : Keep H4 (upd H4 L (.lst ((ys ++ [x]) ++ us))) := Keep.wr eL4 (by intro xs z; cases z)
        have A5 := ((A2.mono s24.keep).app A4).mono k5
        have eq : (flatRs (rs.take i)).map Rw.enc ++ r.enc :: (flatRs r.within).map Rw.enc = ((flatRs (rs.take i)).map Rw.enc ++ [r.enc]) ++ (flatRs r.within).map Rw.enc := by simp
        rw [eq]
        exact A5
    · rintro σ H1 ⟨y, ys, rfl, s1, eL, AL⟩
      have el : rs.take xs.length = rs := List.take_of_length_le (by rw [hx.len, encRs_map, List.length_map]; exact Nat.le_refl _)
      rw [el] at AL
      exact ⟨_, rfl, q H1 L ys s1 hL eL AL⟩
/-! ### rows_of -/
def spRows : Sp := fun vs H Q _ => ∃ (v : V) (d : Dd), vs = [v] ∧ At H v d.enc ∧ DdOk d ∧
  ∀ (H' : Hp) (p : Addr) (ys : List V), Same H H' → H p = none → H' p = some (.lst ys) → Ats H' ys ((flatRs d.rows).map Rw.enc) → Q (.ref p) H'
abbrev sRows : Stmt := top 9
theorem scRows : FnScope ["deed"] ["deed"] (defScope sRows) := ⟨rfl, rfl, rfl, by decide +kernel, rfl, by decide +kernel, by decide +kernel⟩
theorem ok_rows (D : Def K mg "rows_of" sRows) (CT : Call P w K mg base 5 "read_through" (spThrough 4)) : Call P w K mg base 6 "rows_of" spRows := by
  refine call_mk D (fun _ _ _ _ _ _ us hl => match us, hl with | [_], _ => rfl) scRows (fun vs H Q E h => ?_) fun f cdv A outer s H vs Q E hr h => ?_
  · obtain ⟨v, d, rfl, _⟩ := h
    rfl
  obtain ⟨v, d, rfl, hv, hd, q⟩ := h
  refine ⟨_, pss_one (ps_ret (pe_cl CT hr (pa_cons (pe_ix ix_tup (pv 0) pe_int (fun _ _ => rfl)) pa_nil))), ?_⟩
  obtain ⟨a, b, c, us, ve, rfl, h1, h2, h3, h4, h5⟩ := at_dd hv
  have k1 := depRs_ok _ 2 hd.2.2.2.2.1
  have k2 := hd.2.2.2.2.2.1
  exact ⟨_, rfl, a, _, 2, _, rfl, rfl, SqT.of h1, atI_nat (j := 2) rfl, c, us, d.rows, rfl, h3, h4, by omega, by omega, q⟩
end
end Cf


set_option Elab.async false
set_option linter.all false
set_option autoImplicit false
set_option maxRecDepth 100000
set_option maxHeartbeats 2000000
/-! deed_of, look_at_names, look_at_call, made_book. -/
namespace Cf
open PySem PySem.Spec PyProof.Rows L2
/-! ### plain: marks in reading order -/
def Rw.mark : Rw → Option Nat
  | .call _ _ _ m => some m
  | _ => none
mutual
theorem marks_flat : ∀ r : Rw, r.marks = r.flat.filterMap Rw.mark
  | .set _ _ => by simp [Rw.marks, Rw.flat, Rw.mark]
  | .say _ => by simp [Rw.marks, Rw.flat, Rw.mark]
  | .call _ _ _ _ => by simp [Rw.marks, Rw.flat, Rw.mark]
  | .when e rs os => by
    simp only [Rw.marks, Rw.flat, marksRs_flat rs, marksRs_flat os, List.filterMap_cons, List.filterMap_append, Rw.mark]
  | .turn e rs => by
    simp only [Rw.marks, Rw.flat, marksRs_flat rs, List.filterMap_cons, Rw.mark]
theorem marksRs_flat : ∀ rs : List Rw, marksRs rs = (flatRs rs).filterMap Rw.mark
  | [] => by simp [marksRs, flatRs]
  | r :: rs => by simp only [marksRs, flatRs, marks_flat r, marksRs_flat rs, List.filterMap_append]
end
theorem marksB_app : ∀ a b : Bk, marksB (a ++ b) = marksB a ++ marksB b
  | [], b => by simp [marksB]
  | d :: a, b => by simp [marksB, marksB_app a b]
theorem marksB_more {B : Bk} {i : Nat} {d : Dd} (h : B[i]? = some d) : marksB (B.take (i + 1)) = marksB (B.take i) ++ (flatRs d.rows).filterMap Rw.mark := by
  rw [List.take_add_one, h, marksB_app]
  simp [marksB, marksRs_flat]
/-- the i-th of a book stands behind the ones ahead -/
theorem marksB_pre {B : Bk} {i : Nat} {d : Dd} (h : B[i]? = some d) (j : Nat) : ∃ r, marksB B = marksB (B.take i) ++ ((flatRs d.rows).take j).filterMap Rw.mark ++ r := by
  have e : B = B.take (i + 1) ++ B.drop (i + 1) := (List.take_append_drop _ _).symm
  have e2 : flatRs d.rows = (flatRs d.rows).take j ++ (flatRs d.rows).drop j := (List.take_append_drop _ _).symm
  refine ⟨((flatRs d.rows).drop j).filterMap Rw.mark ++ marksB (B.drop (i + 1)), ?_⟩
  conv => lhs; rw [e, marksB_app, marksB_more h, e2, List.filterMap_append]
  simp
/-- texts, whole numbers in a list -/
theorem inV_strs {x : Str} {xs : List Str} (h : x ∉ xs) : inV (.str x) (xs.map V.str) = false := by
  unfold inV
  rw [List.any_eq_false]
  intro y hy
  obtain ⟨z, hz, rfl⟩ := List.mem_map.mp hy
  show ¬ (z == x) = true
  rw [beq_iff_eq]
  exact fun e => h (e ▸ hz)
theorem inV_ints {m : Nat} {ms : List Nat} (h : m ∉ ms) : inV (.int m) (ms.map fun k => V.int (k : Nat)) = false := by
  unfold inV
  rw [List.any_eq_false]
  intro y hy
  obtain ⟨z, hz, rfl⟩ := List.mem_map.mp hy
  show ¬ (((z : Nat) : Int) == ((m : Nat) : Int)) = true
  rw [beq_iff_eq]
  intro e
  have : z = m := by omega
  exact h (this ▸ hz)
theorem flat_strs' (xs : List Str) : (xs.map V.str).all flatV = true := by
  rw [List.all_map, List.all_eq_true]
  exact fun _ _ => rfl
theorem flat_ints' (ms : List Nat) : (ms.map fun k => V.int (k : Nat)).all flatV = true := by
  rw [List.all_map, List.all_eq_true]
  exact fun _ _ => rfl
theorem Ats.dd {H : Hp} {xs : List V} {B : Bk} (h : Ats H xs (B.map Dd.enc)) {i : Nat} {x : V} (e : xs[i]? = some x) : ∃ d, B[i]? = some d ∧ At H x d.enc := by
  obtain ⟨p, hp, hA⟩ := h.getV e
  rw [List.getElem?_map] at hp
  cases hd : B[i]? with
  | none =>
    rw [hd] at hp
    cases hp
  | some d =>
    rw [hd] at hp
    cases hp
    exact ⟨d, rfl, hA⟩
structure TxM (mg : Str → Option Value) : Prop where
  set : mg "set" = none
section
variable {P : Program} {w : World} {K : PySem.W.Frag} {mg : Str → Option Value} {base : Heap}
/-! ### deed_of -/
def spDeedOf : Sp := fun vs H Q _ => ∃ (a : Addr) (xs : List V) (B : Bk) (t : Dd), vs = [.ref a, .str t.name] ∧ H a = some (.lst xs) ∧ Ats H xs (B.map Dd.enc) ∧ t ∈ B ∧ (B.map Dd.name).Nodup ∧ ∀ v, At H v t.enc → Q v H
abbrev sDeedOf : Stmt := top 10
theorem scDeedOf : FnScope ["book", "name", "deed"] ["book", "name"] (defScope sDeedOf) := ⟨rfl, rfl, rfl, by decide +kernel, rfl, by decide +kernel, by decide +kernel⟩
theorem nd_name {B : Bk} (nd : (B.map Dd.name).Nodup) {d t : Dd} (hd : d ∈ B) (ht : t ∈ B) (e : d.name = t.name) : d = t := by
  induction B with
  | nil => cases hd
  | cons b B ih =>
    rw [List.map_cons, List.nodup_cons] at nd
    rcases List.mem_cons.mp hd with e1 | hd'
    · rcases List.mem_cons.mp ht with e2 | ht'
      · rw [e1, e2]
      · exact absurd (List.mem_map.mpr ⟨t, ht', by rw [← e, e1]⟩) nd.1
    · rcases List.mem_cons.mp ht with e2 | ht'
      · exact absurd (List.mem_map.mpr ⟨d, hd', by rw [e, e2]⟩) nd.1
      · exact ih nd.2 hd' ht'
theorem ok_deedOf (D : Def K mg "deed_of" sDeedOf) : Call P w K mg base 1 "deed_of" spDeedOf := by
  refine call_mk D (fun _ _ _ _ _ _ us hl => match us, hl with | [_, _], _ => rfl) scDeedOf (fun vs H Q E h => ?_) fun f cdv A outer s H vs Q E hr h => ?_
  · obtain ⟨a, xs, B, t, rfl, _⟩ := h
    rfl
  obtain ⟨a, xs, B, t, rfl, ha, hx, ht, nd, q⟩ := h
  refine ⟨_, pss_cons (ps_for PassesOwn.never rfl (pi_list (pv 0)) (pg_name (i := 2) scDeedOf.nd rfl (.inl rfl))
      (pss_one (ps_if (pt_cmpR op_eq (pe_ix ix_tup (pv 2) pe_int (fun _ _ => rfl)) (pv 1) (nomark _)) (pss_one (ps_ret (pv 2))) pss_nil)))
    (pss_one ps_never), ?_⟩
  refine ⟨_, rfl, a, rfl, ⟨xs, SqL.of ha⟩, for_list (K := K) (a := a) (xs := xs) (fun i σ H' => ∃ y : Option V, σ = [some (.ref a), some (.str t.name), y] ∧ H' = H ∧ ∀ d ∈ B.take i, d.name ≠ t.name)
    ⟨none, rfl, rfl, fun d hd => by simp at hd⟩ (fun i σ H' _ ⟨_, _, e, _⟩ => by rw [e]; exact SqL.of ha) ?_ ?_⟩
  · rintro i x σ H1 hi ⟨y, rfl, rfl, hno⟩
    obtain ⟨d, hd, Ad⟩ := hx.dd hi
    obtain ⟨p, b, c, us, ve, rfl, h1, h2, h3, h4, h5⟩ := at_dd Ad
    refine ⟨_, rfl, p, _, 0, _, rfl, rfl, SqT.of h1, atI_nat (j := 0) rfl, _, rfl, rfl, _, rfl, ?_⟩
    by_cases e : d.name = t.name
    · refine ifT (decide_eq_true (by rw [e])) ?_
      have := nd_name nd (List.mem_of_getElem? hd) ht e
      subst this
      exact ⟨_, rfl, q _ Ad⟩
    · refine ifF (decide_eq_false fun z => e (V.str.inj z)) ?_
      refine ⟨_, rfl, rfl, fun d' hd' => ?_⟩
      rw [List.take_add_one, hd] at hd'
      simp only [Option.toList_some, List.mem_append, List.mem_singleton] at hd'
      rcases hd' with z | rfl
      · exact hno d' z
      · exact e
  · rintro σ H1 ⟨y, rfl, rfl, hno⟩
    rw [List.take_of_length_le (by rw [hx.len, List.length_map]; exact Nat.le_refl _)] at hno
    exact hno t ht rfl
/-! ### look_at_names -/
def spLookN : Sp := fun vs H Q _ => ∃ (a : Addr) (xs : List V) (B : Bk), vs = [.ref a] ∧ H a = some (.lst xs) ∧ Ats H xs (B.map Dd.enc) ∧ BkOk B ∧ ∀ H', Same H H' → Q .non H'
abbrev sLookN : Stmt := top 11
theorem scLookN : FnScope ["deeds", "names", "name", "params", "rows", "give"] ["deeds"] (defScope sLookN) := ⟨rfl, rfl, rfl, by decide +kernel, rfl, by decide +kernel, by decide +kernel⟩
theorem ok_lookN (T : TxA mg) (M : TxM mg) (D : Def K mg "look_at_names" sLookN) : Call P w K mg base 1 "look_at_names" spLookN := by
  refine call_mk D (fun _ _ _ _ _ _ us hl => match us, hl with | [_], _ => rfl) scLookN (fun vs H Q E h => ?_) fun f cdv A outer s H vs Q E hr h => ?_
  · obtain ⟨a, xs, B, rfl, _⟩ := h
    rfl
  obtain ⟨a, xs, B, rfl, ha, hx, hB, q⟩ := h
  refine ⟨_, pss_cons (ps_set (i := 1) scLookN.nd rfl (.inl rfl) (pe_lst pa_nil))
    (pss_one (ps_for PassesOwn.never rfl (pi_list (pv 0)) (pg_tup (by rfl) (pgs_cons (pg_name (i := 2) scLookN.nd rfl (.inl rfl)) (pgs_cons (pg_name (i := 3) scLookN.nd rfl (.inl rfl)) (pgs_cons (pg_name (i := 4) scLookN.nd rfl (.inl rfl)) (pgs_cons (pg_name (i := 5) scLookN.nd rfl (.inl rfl)) pgs_nil)))))
      (pss_cons (ps_if (PW.pt (pw_or (pt_cmpR op_in_seq (pv 2) (pv 1) (by rfl)) (pw_or1 (pt_cmpR op_lt (pe_lenSetT (by rfl) T.len M.set (pv 3)) (pe_callB call_len_seq (by rfl) T.len PySem.boot_len (pa_cons (pv 3) pa_nil)) (nomark _))))) (pss_one ps_never) pss_nil)
      (pss_one (ps_expr (pe_bm PySem.F.plainAttrs_list PySem.F.slot_list_append PySem.F.type_list_append mt_append (pv 1) (pa_cons (pv 2) pa_nil))))))), ?_⟩
  refine ⟨szn 0, fun L hL => ?_⟩
  have s0 := same_upd (o := .lst []) hL
  have hlen : xs.length = B.length := by rw [hx.len, List.length_map]
  refine ⟨_, rfl, a, rfl, ⟨xs, SqL.of (s0 _ _ ha)⟩, for_list (K := K) (a := a) (xs := xs) (fun i σ H' => ∃ y1 y2 y3 y4 : Option V, σ = [some (.ref a), some (.ref L), y1, y2, y3, y4] ∧ Same H H' ∧ H' L = some (.lst (((B.take i).map Dd.name).map V.str)))
    ⟨none, none, none, none, rfl, s0, by rw [upd_same]; rfl⟩ (fun i σ H' _ ⟨_, _, _, _, _, s1, _⟩ => SqL.of (s1 _ _ ha)) ?_ ?_⟩
  · rintro i x σ H1 hi ⟨y1, y2, y3, y4, rfl, s1, eL⟩
    obtain ⟨d, hd, Ad0⟩ := hx.dd hi
    have Ad := Ad0.mono s1.keep
    obtain ⟨p, b, c, us, ve, rfl, h1, h2, h3, h4, h5⟩ := at_dd Ad
    have hdB := List.mem_of_getElem? hd
    obtain ⟨k1, k2, k3, k4, k5, k6, k7⟩ := hB.dds d hdB
    refine ⟨p, _, rfl, SqT.of h1, rfl, _, _, rfl, _, _, rfl, _, _, rfl, _, _, rfl, rfl, ?_⟩
    -- name in names or len(set(params)) < len(params)
    have nin : d.name ∉ (B.take i).map Dd.name := by
      have nd := hB.names
      have e : B = B.take i ++ B.drop i := (List.take_append_drop _ _).symm
      rw [e, List.map_append, List.nodup_append] at nd
      intro z
      refine nd.2.2 _ z d.name (List.mem_map.mpr ⟨d, ?_, rfl⟩) rfl
      have : (B.drop i)[0]? = some d := by rw [List.getElem?_drop, Nat.add_zero]; exact hd
      exact List.mem_of_getElem? this
    refine ⟨_, rfl, _, rfl, L, _, rfl, .inl (SqL.of eL), rfl, flat_strs' _, _, rfl, ifF ?_ ?_⟩
    · exact inV_strs nin
    refine ⟨_, rfl, b, d.params, rfl, SqT.of h2, k4, by omega, _, rfl, b, _, rfl, .inr (SqT.of h2), _, _, rfl, rfl, _, rfl, ifF (decide_eq_false ?_) ?_⟩
    · rw [List.length_map]
      omega
    refine ⟨_, rfl, .inl ⟨rfl, _, SqL.of eL⟩, _, rfl, L, _, _, rfl, rfl, eL, ?_, ?_⟩
    · have := hB.len
      rw [List.length_map, List.length_map, List.length_take]
      exact szl (by omega)
    refine ⟨_, _, _, _, rfl, s1.mut hL, ?_⟩
    rw [upd_same, List.take_add_one, hd]
    simp
  · rintro σ H1 ⟨y1, y2, y3, y4, rfl, s1, eL⟩
    exact q H1 s1
/-! ### look_at_call -/
def spLookC : Sp := fun vs H Q _ => ∃ (a b : Addr) (xs : List V) (B : Bk) (v : V) (x c : Str) (as : List Ex) (m : Nat) (ms : List Nat), vs = [.ref a, v, .ref b] ∧ H a = some (.lst xs) ∧ Ats H xs (B.map Dd.enc) ∧ (B.map Dd.name).Nodup ∧
  At H v (Rw.call x c as m).enc ∧ (∃ t ∈ B, t.name = c ∧ t.params.length = as.length) ∧ H b = some (.lst (ms.map fun k => V.int (k : Nat))) ∧ m ∉ ms ∧ Q .non H
abbrev sLookC : Stmt := top 12
theorem scLookC : FnScope ["deeds", "row", "marks"] ["deeds", "row", "marks"] (defScope sLookC) := ⟨rfl, rfl, rfl, by decide +kernel, rfl, by decide +kernel, by decide +kernel⟩
theorem ok_lookC (T : TxA mg) (D : Def K mg "look_at_call" sLookC) (CD : Call P w K mg base 1 "deed_of" spDeedOf) : Call P w K mg base 2 "look_at_call" spLookC := by
  refine call_mk D (fun _ _ _ _ _ _ us hl => match us, hl with | [_, _, _], _ => rfl) scLookC (fun vs H Q E h => ?_) fun f cdv A outer s H vs Q E hr h => ?_
  · obtain ⟨a, b, xs, B, v, x, c, as, m, ms, rfl, _⟩ := h
    rfl
  obtain ⟨a, b, xs, B, v, x, c, as, m, ms, rfl, ha, hx, nd, hv, ⟨t, ht, rfl, hlen⟩, hb, hm, q⟩ := h
  refine ⟨_, pss_cons (ps_if (pt_cmpR op_ne (pe_callB call_len_seq (by rfl) T.len PySem.boot_len (pa_cons (pe_ix ix_tup (pv 1) pe_int (fun _ _ => rfl)) pa_nil))
      (pe_callB call_len_seq (by rfl) T.len PySem.boot_len (pa_cons (pe_ix ix_tup (pe_cl CD hr (pa_cons (pv 0) (pa_cons (pe_ix ix_tup (pv 1) pe_int (fun _ _ => rfl)) pa_nil))) pe_int (fun _ _ => rfl)) pa_nil)) (nomark _)) (pss_one ps_never) pss_nil)
    (pss_one (ps_if (pt_cmpR op_in_seq (pe_ix ix_tup (pv 1) pe_int (fun _ _ => rfl)) (pv 2) (by rfl)) (pss_one ps_never) pss_nil)), ?_⟩
  obtain ⟨p, pb, us, rfl, h1, h2, h3⟩ := at_call hv
  have lu : us.length = as.length := by rw [h3.len, List.length_map]
  refine ⟨_, rfl, p, _, 3, _, rfl, rfl, SqT.of h1, atI_nat (j := 3) rfl, pb, us, rfl, .inr (SqT.of h2), ?_⟩
  refine ⟨_, rfl, _, rfl, p, _, 2, _, rfl, rfl, SqT.of h1, atI_nat (j := 2) rfl, a, xs, B, t, rfl, ha, hx, ht, nd, fun vt At' => ?_⟩
  obtain ⟨q1, b1, c1, us1, ve1, rfl, k1, k2, k3, k4, k5⟩ := at_dd At'
  refine ⟨q1, _, 1, _, rfl, rfl, SqT.of k1, atI_nat (j := 1) rfl, b1, _, rfl, .inr (SqT.of k2), rfl, _, rfl, ifF ?_ ?_⟩
  · rw [List.length_map, lu, hlen, decide_eq_true rfl]
    rfl
  refine ⟨_, rfl, p, _, 4, _, rfl, rfl, SqT.of h1, atI_nat (j := 4) rfl, _, rfl, b, _, rfl, .inl (SqL.of hb), rfl, flat_ints' _, _, rfl, ifF (inV_ints hm) q⟩
/-! ### made_book -/
def spMade : Sp := fun vs H Q _ => ∃ (a : Addr) (xs : List V) (B : Bk), vs = [.ref a] ∧ H a = some (.lst xs) ∧ Ats H xs (B.map Dd.enc) ∧ BkOk B ∧ ∀ (H' : Hp) (v : V), Same H H' → At H' v (encB B) → Q v H'
abbrev sMade : Stmt := top 13
theorem scMade : FnScope ["deeds", "marks", "deed", "row"] ["deeds"] (defScope sMade) := ⟨rfl, rfl, rfl, by decide +kernel, rfl, by decide +kernel, by decide +kernel⟩
theorem flat_word (r : Rw) : (∃ x c as m, r = .call x c as m) ∨ (r.mark = none ∧ ∀ (H : Hp) (v : V), At H v r.enc → ∃ p wd t, v = .ref p ∧ H p = some (.tup (.str wd :: t)) ∧ decide (V.str wd = V.str "call") = false) := by
  cases r with
  | call x c as m => exact .inl ⟨x, c, as, m, rfl⟩
  | set x e =>
    refine .inr ⟨rfl, fun H v h => ?_⟩
    obtain ⟨a, ve, rfl, h1, h2⟩ := at_set h
    exact ⟨a, _, _, rfl, h1, by decide +kernel⟩
  | say e =>
    refine .inr ⟨rfl, fun H v h => ?_⟩
    obtain ⟨a, ve, rfl, h1, h2⟩ := at_say h
    exact ⟨a, _, _, rfl, h1, by decide +kernel⟩
  | when e rs os =>
    refine .inr ⟨rfl, fun H v h => ?_⟩
    obtain ⟨a, ve, b, c, us, ws, rfl, h1, h2, h3, h4, h5, h6⟩ := at_when h
    exact ⟨a, _, _, rfl, h1, by decide +kernel⟩
  | turn e rs =>
    refine .inr ⟨rfl, fun H v h => ?_⟩
    obtain ⟨a, ve, b, us, rfl, h1, h2, h3, h4⟩ := at_turn h
    exact ⟨a, _, _, rfl, h1, by decide +kernel⟩
theorem ok_made (T : TxA mg) (D : Def K mg "made_book" sMade) (CN : Call P w K mg base 1 "look_at_names" spLookN) (CR : Call P w K mg base 6 "rows_of" spRows) (CC : Call P w K mg base 2 "look_at_call" spLookC) : Call P w K mg base 7 "made_book" spMade := by
  refine call_mk D (fun _ _ _ _ _ _ us hl => match us, hl with | [_], _ => rfl) scMade (fun vs H Q E h => ?_) fun f cdv A outer s H vs Q E hr h => ?_
  · obtain ⟨a, xs, B, rfl, _⟩ := h
    rfl
  obtain ⟨a, xs, B, rfl, ha, hx, hB, q⟩ := h
  refine ⟨_, pss_cons (ps_expr (pe_cl CN hr (pa_cons (pv 0) pa_nil)))
    (pss_cons (ps_set (i := 1) scMade.nd rfl (.inl rfl) (pe_lst pa_nil))
    (pss_cons (ps_for PassesOwn.never rfl (pi_list (pv 0)) (pg_name (i := 2) scMade.nd rfl (.inl rfl))
      (pss_one (ps_for PassesOwn.never rfl (pi_list (pe_cl CR hr (pa_cons (pv 2) pa_nil))) (pg_name (i := 3) scMade.nd rfl (.inl rfl))
        (pss_one (ps_if (pt_cmpR op_eq (pe_ix ix_tup (pv 3) pe_int (fun _ _ => rfl)) pe_str (nomark _))
          (pss_cons (ps_expr (pe_cl CC hr (pa_cons (pv 0) (pa_cons (pv 3) (pa_cons (pv 1) pa_nil)))))
          (pss_one (ps_expr (pe_bm PySem.F.plainAttrs_list PySem.F.slot_list_append PySem.F.type_list_append mt_append (pv 1) (pa_cons (pe_ix ix_tup (pv 3) pe_int (fun _ _ => rfl)) pa_nil))))) pss_nil)))))
    (pss_one (ps_ret (pe_callTy call_tuple_of (by rfl) T.tuple (by decide +kernel) (pa_cons (pv 0) pa_nil)))))), ?_⟩
  refine ⟨_, rfl, a, xs, B, rfl, ha, hx, hB, fun H1 s1 => ?_⟩
  refine ⟨szn 0, fun L hL => ?_⟩
  have s0 := same_upd (o := .lst []) hL
  have ha1 := s1 _ _ ha
  have hx1 := hx.mono s1.keep
  refine ⟨_, rfl, a, rfl, ⟨xs, SqL.of (s0 _ _ ha1)⟩, for_list (K := K) (a := a) (xs := xs) (fun i σ H' => ∃ y z : Option V, σ = [some (.ref a), some (.ref L), y, z] ∧ Same H1 H' ∧ H' L = some (.lst ((marksB (B.take i)).map fun k => V.int (k : Nat))))
    ⟨none, none, rfl, s0, by rw [upd_same]; rfl⟩ (fun i σ H' _ ⟨_, _, _, s2, _⟩ => SqL.of (s2 _ _ ha1)) ?_ ?_⟩
  · rintro i x σ H2 hi ⟨y, z, rfl, s2, eL⟩
    obtain ⟨d, hd, Ad0⟩ := hx1.dd hi
    have Ad := Ad0.mono s2.keep
    have hdB := List.mem_of_getElem? hd
    -- for row in rows_of(deed)
    refine ⟨_, rfl, x, d, rfl, Ad, hB.dds d hdB, fun H3 p ys s3 np ep Ay => ⟨p, rfl, ⟨_, SqL.of ep⟩, ?_⟩⟩
    have npL : L ≠ p := ne_of_none eL np
    refine for_list (K := K) (a := p) (xs := ys) (fun j σ H' => ∃ z : Option V, σ = [some (.ref a), some (.ref L), some x, z] ∧ Same H1 H' ∧ Keep H3 H' ∧ H' p = some (.lst ys) ∧ H' L = some (.lst ((marksB (B.take i) ++ ((flatRs d.rows).take j).filterMap Rw.mark).map fun k => V.int (k : Nat))))
      ⟨z, rfl, s2.trans s3, Keep.refl _, ep, by rw [s3 _ _ eL]; simp⟩ (fun j σ H' _ ⟨_, _, _, _, e, _⟩ => SqL.of e) ?_ ?_
    · rintro j v σ H4 hj ⟨z, rfl, s4, k4, e4, eL4⟩
      obtain ⟨dd, hdd, Av0⟩ := Ay.getV hj
      rw [List.getElem?_map] at hdd
      cases hr' : (flatRs d.rows)[j]? with
      | none =>
        rw [hr'] at hdd
        cases hdd
      | some r =>
        rw [hr'] at hdd
        obtain rfl : r.enc = dd := Option.some.inj hdd
        have Av := Av0.mono k4
        have more : (flatRs d.rows).take (j + 1) = (flatRs d.rows).take j ++ [r] := by
          rw [List.take_add_one, hr']
          rfl
        rcases flat_word r with ⟨x1, c1, as1, m1, rfl⟩ | ⟨hm, hw⟩
        · obtain ⟨q1, b1, us1, rfl, k1, k2, k3⟩ := at_call Av
          refine ⟨_, rfl, q1, _, 0, _, rfl, rfl, SqT.of k1, atI_nat (j := 0) rfl, rfl, _, rfl, ifT (decide_eq_true rfl) ?_⟩
          have out : m1 ∉ marksB (B.take i) ++ ((flatRs d.rows).take j).filterMap Rw.mark := by
            obtain ⟨rest, er⟩ := marksB_pre hd (j + 1)
            have nd := hB.marks
            rw [er, more, List.filterMap_append, ← List.append_assoc, List.append_assoc, List.nodup_append] at nd
            intro z
            exact nd.2.2 m1 z m1 (by simp [Rw.mark]) rfl
          refine ⟨_, rfl, _, rfl, _, rfl, a, L, xs, B, .ref q1, x1, c1, as1, m1, _, rfl, s4 _ _ ha1, hx1.mono s4.keep, hB.names, Av, hB.calls d hdB x1 c1 as1 m1 (List.mem_of_getElem? hr'), eL4, out, ?_⟩
          refine ⟨_, rfl, .inl ⟨rfl, _, SqL.of eL4⟩, _, rfl, q1, _, 4, _, rfl, rfl, SqT.of k1, atI_nat (j := 4) rfl, L, _, _, rfl, rfl, eL4, ?_, ?_⟩
          · obtain ⟨rest, er⟩ := marksB_pre hd j
            have few := hB.few
            rw [er, List.length_append] at few
            rw [List.length_map]
            exact szl (by omega)
          refine ⟨_, rfl, s4.mut hL, k4.trans (Keep.wr eL4 (by intro xs z; cases z)), by rw [upd_ne npL.symm]; exact e4, ?_⟩
          rw [upd_same, more, List.filterMap_append]
          simp [Rw.mark]
        · obtain ⟨q1, wd, t, rfl, k1, k2⟩ := hw H4 v Av
          refine ⟨_, rfl, q1, _, 0, _, rfl, rfl, SqT.of k1, atI_nat (j := 0) rfl, rfl, _, rfl, ifF k2 ?_⟩
          refine ⟨_, rfl, s4, k4, e4, ?_⟩
          rw [eL4, more, List.filterMap_append]
          simp [hm]
    · rintro σ H4 ⟨z, rfl, s4, k4, e4, eL4⟩
      have el : (flatRs d.rows).take ys.length = flatRs d.rows := List.take_of_length_le (by rw [Ay.len, List.length_map]; exact Nat.le_refl _)
      rw [el] at eL4
      exact ⟨_, _, rfl, s4, by rw [eL4, marksB_more hd]⟩
  · rintro σ H2 ⟨y, z, rfl, s2, eL⟩
    refine ⟨_, rfl, a, xs, rfl, .inl ⟨SqL.of (s2 _ _ ha1), fun p hp => ?_⟩⟩
    exact q _ _ ((s1.trans s2).trans (same_upd hp)) (at_new hp (hx1.mono s2.keep))
end
end Cf


set_option Elab.async false
set_option linter.all false
set_option autoImplicit false
set_option maxRecDepth 100000
set_option maxHeartbeats 2000000
/-! read_book. -/
namespace Cf
open PySem PySem.Spec PyProof.Rows L2
structure TxN (K : PySem.W.Frag) (mg : Str → Option Value) (C : Addr) : Prop where
  makes : PySem.W.makesIn K C = true
  kc : PySem.W.keepIn K (.ref C) = true
  mgC : mg "Reading" = some (.ref C)
  enum : mg "enumerate" = none
section
variable {P : Program} {w : World} {K : PySem.W.Frag} {mg : Str → Option Value} {base : Heap} {C : Addr}
def spRead : Sp := fun vs H Q _ => ∃ B : Bk, vs = [.str (textOf (lnsB B))] ∧ BkOk B ∧ B ≠ [] ∧ ∀ (H' : Hp) (v : V), Same H H' → At H' v (encB B) → Q v H'
abbrev sRead : Stmt := top 39
theorem scRead : FnScope ["text", "reading", "rows", "at", "row"] ["text"] (defScope sRead) := ⟨rfl, rfl, rfl, by decide +kernel, rfl, by decide +kernel, by decide +kernel⟩
theorem ok_read (T : TxA mg) (R : TxR K mg C) (N : TxN K mg C) (D : Def K mg "read_book" sRead) (CI : CallM P w K mg base 1 C "__init__" (spInit C)) (CT : CallM P w K mg base 12 C "takes" (spTakes C)) (CM : Call P w K mg base 7 "made_book" spMade) : Call P w K mg base 13 "read_book" spRead := by
  refine call_mk D (fun _ _ _ _ _ _ us hl => match us, hl with | [_], _ => rfl) scRead (fun vs H Q E h => ?_) fun f cdv A outer s H vs Q E hr h => ?_
  · obtain ⟨B, rfl, _⟩ := h
    rfl
  obtain ⟨B, rfl, hB, hne, q⟩ := h
  obtain ⟨fi, fdi, psi, _, mei, Fi, bi⟩ := CI
  have M : Mk K C fi := ⟨N.makes, mei.at_, mei.fn, N.kc⟩
  refine ⟨_, pss_cons (ps_set (i := 1) scRead.nd rfl (.inl rfl) (pe_make0 M Fi (hr.mono (by decide)) rfl N.mgC bi .nil pass0))
    (pss_cons (ps_set (i := 2) scRead.nd rfl (.inl rfl) (pe_split (pv 0) pe_str))
    (pss_cons (ps_for PassesOwn.never rfl (pi_enum (by rfl) N.enum (pa_cons (pv 2) pa_nil)) (pg_tup (by rfl) (pgs_cons (pg_name (i := 3) scRead.nd rfl (.inl rfl)) (pgs_cons (pg_name (i := 4) scRead.nd rfl (.inl rfl)) pgs_nil)))
      (pss_one (ps_if (pt_not (pt_val (pe_cm CT hr (pv 1) (pa_cons (pe_split (pv 4) pe_str) pa_nil)))) (pss_one ps_never) pss_nil)))
    (pss_cons (ps_if (pt_cmp (pc_notN (pe_fld (pv 1) rfl))) (pss_one ps_never) pss_nil)
    (pss_one (ps_ret (pe_cl CM hr (pa_cons (pe_fld (pv 1) rfl) pa_nil))))))), ?_⟩
  have okL := lnsBOk B hB.dds
  have few := lnsB_few B hB.dds
  have h8 := hB.len
  have tl8 := bk_len hB.dds hB.len
  obtain ⟨bsF, nF, cF, run⟩ := run_book hB
  -- reading = Reading()
  intro p dx np ndx ne
  refine ⟨p, dx, rfl, upd_same, fun ld lb H1 fd fb nlb kp ob el eb => ⟨rfl, ?_⟩⟩
  have sI : Same H (upd (upd H dx (.own p)) p (.ins C dx [])) := fun b o e => by
    rw [upd_ne (ne_of_none e np), upd_ne (ne_of_none e ndx)]
    exact e
  have s1 : Same H H1 := Same.made np ndx kp
  have fd0 : H ld = none := sI.free fd
  have fb0 : H lb = none := sI.free fb
  -- rows = text.split("\\n")
  refine ⟨_, rfl, ⟨_, rfl⟩, textOf (lnsB B), "\n", rfl, rfl, by decide +kernel, sz (by omega), fun lr hlr => ?_⟩
  rw [text_split (lnsB_ne hne) okL]
  have flr : H lr = none := s1.free hlr
  have plr : p ≠ lr := ne_of_none ob hlr
  have dlr : ld ≠ lr := ne_of_none el hlr
  have blr : lb ≠ lr := ne_of_none eb hlr
  have h02 : Same (upd H lr (.lst (((lnsB B).map Ln.line).map V.str))) (upd H1 lr (.lst (((lnsB B).map Ln.line).map V.str))) := fun b o e => by
    by_cases hb : b = lr
    · subst hb
      rw [upd_same] at e ⊢
      exact e
    · rw [upd_ne hb] at e ⊢
      exact s1 _ _ e
  have sH : Same H (upd H lr (.lst (((lnsB B).map Ln.line).map V.str))) := same_upd flr
  have eL0 : (upd H lr (.lst (((lnsB B).map Ln.line).map V.str))) lr = some (.lst (((lnsB B).map Ln.line).map V.str)) := upd_same
  have R0 : RD C (upd H lr (.lst (((lnsB B).map Ln.line).map V.str))) (upd H1 lr (.lst (((lnsB B).map Ln.line).map V.str))) p RS0 := by
    refine ⟨dx, ld, lb, .non, [], [], [], ?_, ?_, ?_, .nil, rfl, ?_, .nil, fun a ha => ?_, ?_⟩
    · rw [upd_ne plr]
      exact ob
    · rw [upd_ne plr]
      exact np
    · rw [upd_ne dlr]
      exact el
    · rw [upd_ne blr]
      exact eb
    · simp only [List.mem_cons, List.not_mem_nil, or_false] at ha
      rcases ha with rfl | rfl
      · rw [upd_ne dlr]
        exact fd0
      · rw [upd_ne blr]
        exact fb0
    · simp [nlb]
  generalize upd H lr (.lst (((lnsB B).map Ln.line).map V.str)) = H0 at h02 sH eL0 R0
  generalize upd H1 lr (.lst (((lnsB B).map Ln.line).map V.str)) = H2 at h02 R0
  -- the loop
  refine ⟨_, rfl, lr, _, rfl, SqL.of (h02 _ _ eL0), ?_⟩
  refine for_it (walk_enum (xs := ((lnsB B).map Ln.line).map V.str)) (fun i σ H' => ∃ (st : RS) (y z : Option V), σ = [some (.str (textOf (lnsB B))), some (.ref p), some (.ref lr), y, z] ∧ Run st ((lnsB B).drop i) ⟨B, none, bsF, nF, cF⟩ ∧ Sm st ∧ Same H0 H' ∧ RD C H0 H' p st)
    ⟨RS0, none, none, rfl, by rw [List.drop_zero]; exact run, sm0, h02, R0⟩ (fun i σ H' _ ⟨_, _, _, _, _, _, s3, _⟩ => SqL.of (s3 _ _ eL0)) ?_ ?_
  · rintro i v σ H3 H4 hi ⟨st, y, z, rfl, hrun, hsm, s3, hR⟩ ⟨t, x1, x2, rfl, nt, rfl, e1, e2⟩
    obtain rfl : V.int (i : Nat) = x1 := Option.some.inj e1
    rw [List.length_map, List.length_map] at hi
    have hl : (lnsB B)[i]? = some (lnsB B)[i] := List.getElem?_eq_getElem hi
    have e2' : (((lnsB B).map Ln.line).map V.str)[i]? = some x2 := e2
    rw [List.getElem?_map, List.getElem?_map, hl] at e2'
    obtain rfl : V.str (lnsB B)[i].line = x2 := Option.some.inj e2'
    have okl := okL _ (List.getElem_mem hi)
    have ln := line_len okl
    rw [List.drop_eq_getElem_cons hi] at hrun
    obtain ⟨st1, hstep, hrun1⟩ := hrun
    have s4 := same_upd (o := .tup [V.int (i : Nat), V.str (lnsB B)[i].line]) nt
    have e4 : (upd H3 t (.tup [V.int (i : Nat), V.str (lnsB B)[i].line])) t = some (.tup [V.int (i : Nat), V.str (lnsB B)[i].line]) := upd_same
    generalize upd H3 t (.tup [V.int (i : Nat), V.str (lnsB B)[i].line]) = H4 at s4 e4
    obtain ⟨dx', ld', lb', vh', vds', xs', own', X⟩ := hR
    have X4 := X.same s4
    refine ⟨t, _, rfl, SqT.of e4, rfl, _, _, rfl, _, _, rfl, rfl, ?_⟩
    -- reading.takes(row.split(" "))
    refine ⟨_, rfl, p, dx', _, rfl, X4.ob, f_no (by decide +kernel) (by decide +kernel) (by decide +kernel) (by decide +kernel) (by decide +kernel), ?_⟩
    refine ⟨_, rfl, ⟨_, rfl⟩, (lnsB B)[i].line, " ", rfl, rfl, by decide +kernel, sz (by omega), fun lw hlw => ?_⟩
    rw [line_split okl]
    have s5 := same_upd (o := .lst ((lnsB B)[i].words.map V.str)) hlw
    refine ⟨H0, p, lw, st, st1, _, rfl, (s3.trans s4).trans s5, ⟨_, _, _, _, _, _, _, X4.same s5⟩, hsm, upd_same, okl, hstep, fun H6 s6 R6 => ⟨true, rfl, ifF rfl ?_⟩⟩
    exact ⟨st1, _, _, rfl, hrun1, hstep.sm hsm, s6, R6⟩
  · rintro σ H3 ⟨st, y, z, rfl, hrun, hsm, s3, ⟨dx', ld', lb', vh', vds', xs', own', X⟩⟩
    rw [List.length_map, List.length_map, List.drop_length] at hrun
    have est : st = ⟨B, none, bsF, nF, cF⟩ := hrun
    subst est
    have ev : vh' = .non := X.hd
    subst ev
    refine ⟨_, rfl, p, C, dx', _, _, rfl, X.ob, R.cl, R.nH, f_head, _, rfl, ifF rfl ?_⟩
    refine ⟨_, rfl, p, C, dx', _, _, rfl, X.ob, R.cl, R.nD, f_deeds, ld', vds', B, rfl, X.dl, X.da, hB, fun H4 v s4 Av => ?_⟩
    exact q H4 v ((sH.trans s3).trans s4) Av
end
end Cf


set_option Elab.async false
set_option linter.all false
set_option autoImplicit false
set_option maxRecDepth 100000
set_option maxHeartbeats 2000000
/-! expression_text, _law_written. -/
namespace Cf
open PySem PySem.Spec PyProof.Rows L2
section
variable {P : Program} {w : World} {K : PySem.W.Frag} {mg : Str → Option Value} {base : Heap}
theorem at_num {H : Hp} {v : V} {n : Nat} (h : At H v (Ex.num n).enc) : ∃ a, v = .ref a ∧ H a = some (.tup [.str "number", .int n]) := by
  unfold Ex.enc at h
  obtain ⟨a, xs, rfl, h1, h2⟩ := h.inv
  obtain ⟨v1, t, rfl, h3, h4⟩ := h2.inv
  obtain ⟨v2, t, rfl, h5, h6⟩ := h4.inv
  cases h6.inv0
  cases h3.ofStr
  cases h5.ofInt
  exact ⟨a, rfl, h1⟩
theorem at_nam {H : Hp} {v : V} {x : Str} (h : At H v (Ex.nam x).enc) : ∃ a, v = .ref a ∧ H a = some (.tup [.str "name", .str x]) := by
  unfold Ex.enc at h
  obtain ⟨a, xs, rfl, h1, h2⟩ := h.inv
  obtain ⟨v1, t, rfl, h3, h4⟩ := h2.inv
  obtain ⟨v2, t, rfl, h5, h6⟩ := h4.inv
  cases h6.inv0
  cases h3.ofStr
  cases h5.ofStr
  exact ⟨a, rfl, h1⟩
theorem at_bin {H : Hp} {v : V} {o : Op} {x y : Ex} (h : At H v (Ex.bin o x y).enc) : ∃ a vx vy, v = .ref a ∧ H a = some (.tup [.str o.word, vx, vy]) ∧ At H vx x.enc ∧ At H vy y.enc := by
  unfold Ex.enc at h
  obtain ⟨a, xs, rfl, h1, h2⟩ := h.inv
  obtain ⟨v1, t, rfl, h3, h4⟩ := h2.inv
  obtain ⟨v2, t, rfl, h5, h6⟩ := h4.inv
  obtain ⟨v3, t, rfl, h7, h8⟩ := h6.inv
  cases h8.inv0
  cases h3.ofStr
  exact ⟨a, v2, v3, rfl, h1, h5, h7⟩
theorem op_not (o : Op) : decide (V.str o.word = V.str "number") = false ∧ decide (V.str o.word = V.str "name") = false := by
  cases o <;> decide +kernel
theorem small_log {n : Nat} (h : n ≤ 999999) : ((n : Nat) : Int).natAbs.log2 < 1920 := by
  have e : ((n : Nat) : Int).natAbs = n := rfl
  rw [e]
  by_cases h0 : n = 0
  · subst h0
    decide
  · exact Nat.lt_trans ((Nat.log2_lt h0).mpr (show n < 2 ^ 20 by omega)) (by decide)
/-- a text is written within so many calls -/
def spET (n : Nat) : Sp := fun vs H Q _ => ∃ (v : V) (e : Ex) (d : Nat), vs = [v] ∧ At H v e.enc ∧ ExOk d e ∧ d < n ∧ d ≤ 4 ∧ ∀ H', Same H H' → Q (.str e.text) H'
abbrev sET : Stmt := top 27
theorem scET : FnScope ["expression", "word"] ["expression"] (defScope sET) := ⟨rfl, rfl, rfl, by decide +kernel, rfl, by decide +kernel, by decide +kernel⟩
theorem len_bin {d : Nat} {o : Op} {a b : Ex} (ha : ExOk d a) (hb : ExOk d b) (hd : d ≤ 4) : a.text.length ≤ 141 ∧ b.text.length ≤ 141 ∧ (("(" : Str) ++ a.text).length ≤ 142 ∧ ((("(" : Str) ++ a.text) ++ o.sign).length ≤ 143 ∧ (((("(" : Str) ++ a.text) ++ o.sign) ++ b.text).length ≤ 284 := by
  have h1 := text_len4 (ha.mono hd)
  have h2 := text_len4 (hb.mono hd)
  have e1 : ("(" : Str).length = 1 := by decide +kernel
  have e2 : o.sign.length = 1 := by cases o <;> decide +kernel
  have app : ∀ x y : Str, (x ++ y).length = x.length + y.length := fun x y => by rw [TL.len_tl, TL.tl_append, List.length_append, ← TL.len_tl, ← TL.len_tl]
  refine ⟨h1, h2, ?_, ?_, ?_⟩
  · rw [app]
    omega
  · rw [app, app]
    omega
  · rw [app, app, app]
    omega
theorem ok_ET (T : TxA mg) (B : TxB K w mg) (D : Def K mg "expression_text" sET) : ∀ n : Nat, Call P w K mg base n "expression_text" (spET n)
  | 0 => call_none (ps := ["expression"]) D (fun _ _ _ _ _ _ us hl => match us, hl with | [_], _ => rfl) fun vs H Q E h => by
      obtain ⟨v, e, d, _, _, _, h, _⟩ := h
      omega
  | n + 1 => by
    have CT := ok_ET T B D n
    refine call_mk D (fun _ _ _ _ _ _ us hl => match us, hl with | [_], _ => rfl) scET (fun vs H Q E h => ?_) fun f cdv A outer s H vs Q E hr h => ?_
    · obtain ⟨v, e, d, rfl, _⟩ := h
      rfl
    obtain ⟨v, e, d, rfl, hv, hE, hd, h4, q⟩ := h
    obtain ⟨wa, wes, wn, wm, KD, wg⟩ := B.sg
    have cS : Con mg "SIGNS" (.ref wa) := ⟨_, wm, rfl⟩
    refine ⟨_, pss_cons (ps_set (i := 1) scET.nd rfl (.inl rfl) (pe_ix ix_tup (pv 0) pe_int (fun _ _ => rfl)))
      (pss_cons (ps_if (pt_cmpR op_eq (pv 1) pe_str (nomark _)) (pss_one (ps_ret (pe_callTy call_str_int (by rfl) T.str (by decide +kernel) (pa_cons (pe_ix ix_tup (pv 0) pe_int (fun _ _ => rfl)) pa_nil)))) pss_nil)
      (pss_cons (ps_if (pt_cmpR op_eq (pv 1) pe_str (nomark _)) (pss_one (ps_ret (pe_ix ix_tup (pv 0) pe_int (fun _ _ => rfl)))) pss_nil)
      (pss_one (ps_ret (pe_op op_add_str (pe_op op_add_str (pe_op op_add_str (pe_op op_add_str pe_str (pe_cl CT hr (pa_cons (pe_ix ix_tup (pv 0) pe_int (fun _ _ => rfl)) pa_nil))) (pe_ix ix_kdict (pe_k cS) (pv 1) (fun _ _ => rfl)))
        (pe_cl CT hr (pa_cons (pe_ix ix_tup (pv 0) pe_int (fun _ _ => rfl)) pa_nil))) pe_str))))), ?_⟩
    cases e with
    | num k =>
      unfold ExOk at hE
      obtain ⟨a, rfl, h1⟩ := at_num hv
      refine ⟨_, rfl, a, _, 0, _, rfl, rfl, SqT.of h1, atI_nat (j := 0) rfl, ?_⟩
      refine ⟨_, rfl, rfl, _, rfl, ifT (decide_eq_true rfl) ?_⟩
      exact ⟨_, rfl, a, _, 1, _, rfl, rfl, SqT.of h1, atI_nat (j := 1) rfl, _, rfl, small_log hE, q H (Same.refl H)⟩
    | nam x =>
      obtain ⟨a, rfl, h1⟩ := at_nam hv
      refine ⟨_, rfl, a, _, 0, _, rfl, rfl, SqT.of h1, atI_nat (j := 0) rfl, ?_⟩
      refine ⟨_, rfl, rfl, _, rfl, ifF (by decide +kernel) ?_⟩
      refine ⟨_, rfl, rfl, _, rfl, ifT (decide_eq_true rfl) ?_⟩
      exact ⟨_, rfl, a, _, 1, _, rfl, rfl, SqT.of h1, atI_nat (j := 1) rfl, q H (Same.refl H)⟩
    | bin o x y =>
      cases d with
      | zero =>
        unfold ExOk at hE
        exact hE.elim
      | succ d =>
        unfold ExOk at hE
        obtain ⟨a, vx, vy, rfl, h1, hx, hy⟩ := at_bin hv
        obtain ⟨z1, z2, z3, z4, z5⟩ := len_bin (o := o) hE.1 hE.2 (by omega)
        have e1 : ("(" : Str).length = 1 := by decide +kernel
        have e3 : (")" : Str).length = 1 := by decide +kernel
        have e2 : o.sign.length = 1 := by cases o <;> decide +kernel
        refine ⟨_, rfl, a, _, 0, _, rfl, rfl, SqT.of h1, atI_nat (j := 0) rfl, ?_⟩
        refine ⟨_, rfl, rfl, _, rfl, ifF (op_not o).1 ?_⟩
        refine ⟨_, rfl, rfl, _, rfl, ifF (op_not o).2 ?_⟩
        refine ⟨_, rfl, a, _, 1, _, rfl, rfl, SqT.of h1, atI_nat (j := 1) rfl, vx, x, d, rfl, hx, hE.1, by omega, by omega, fun H1 s1 => ?_⟩
        obtain ⟨u, wu, ru⟩ := wg o
        refine ⟨_, _, rfl, rfl, sz (by omega), _, rfl, wa, o.word, .str o.sign, rfl, rfl, ⟨_, _, u, KD.at_, KD.lit, wu, ru⟩, _, _, rfl, rfl, sz (by omega), ?_⟩
        refine ⟨_, rfl, a, _, 2, _, rfl, rfl, SqT.of (s1 _ _ h1), atI_nat (j := 2) rfl, vy, y, d, rfl, hy.mono s1.keep, hE.2, by omega, by omega, fun H2 s2 => ?_⟩
        exact ⟨_, _, rfl, rfl, sz (by omega), _, _, rfl, rfl, sz (by omega), q H2 (s1.trans s2)⟩
/-! ### _law_written -/
def opsL : List V := [.str "plus", .str "less", .str "times", .str "over", .str "rest", .str "under", .str "same"]
def Op.ix : Op → Nat
  | .plus => 0 | .less => 1 | .times => 2 | .over => 3 | .rest => 4 | .under => 5 | .same => 6
theorem ops_at (o : Op) : opsL[o.ix]? = some (.str o.word) := by cases o <;> rfl
theorem ops_no (o : Op) : ((opsL.take o.ix).all fun z => !eqV z (.str o.word)) = true := by cases o <;> decide +kernel
theorem ops_ahead (o : Op) (m : Nat) (z : V) (hm : m < o.ix) (hz : opsL[m]? = some z) : eqV z (.str o.word) = false := by
  have h := List.all_eq_true.mp (ops_no o) z (List.mem_of_getElem? (i := m) (by rw [List.getElem?_take, if_pos hm]; exact hz))
  simpa using h
theorem ops_sign (o : Op) : atI (("+-*/:<=" : Str)).cps.toList ((o.ix : Nat) : Int) = some o.code := by cases o <;> decide +kernel
abbrev sLW : Stmt := top 52
theorem scLW : FnScope ["expression", "word", "sign"] ["expression"] (defScope sLW) := ⟨rfl, rfl, rfl, by decide +kernel, rfl, by decide +kernel, by decide +kernel⟩
theorem ok_LW (T : TxA mg) (D : Def K mg "_law_written" sLW) : ∀ n : Nat, Call P w K mg base n "_law_written" (spET n)
  | 0 => call_none (ps := ["expression"]) D (fun _ _ _ _ _ _ us hl => match us, hl with | [_], _ => rfl) fun vs H Q E h => by
      obtain ⟨v, e, d, _, _, _, h, _⟩ := h
      omega
  | n + 1 => by
    have CT := ok_LW T D n
    refine call_mk D (fun _ _ _ _ _ _ us hl => match us, hl with | [_], _ => rfl) scLW (fun vs H Q E h => ?_) fun f cdv A outer s H vs Q E hr h => ?_
    · obtain ⟨v, e, d, rfl, _⟩ := h
      rfl
    obtain ⟨v, e, d, rfl, hv, hE, hd, h4, q⟩ := h
    refine ⟨_, pss_cons (ps_set (i := 1) scLW.nd rfl (.inl rfl) (pe_ix ix_tup (pv 0) pe_int (fun _ _ => rfl)))
      (pss_cons (ps_if (pt_cmpR op_eq (pv 1) pe_str (nomark _)) (pss_one (ps_ret (pe_callTy call_str_int (by rfl) T.str (by decide +kernel) (pa_cons (pe_ix ix_tup (pv 0) pe_int (fun _ _ => rfl)) pa_nil)))) pss_nil)
      (pss_cons (ps_if (pt_cmpR op_eq (pv 1) pe_str (nomark _)) (pss_one (ps_ret (pe_ix ix_tup (pv 0) pe_int (fun _ _ => rfl)))) pss_nil)
      (pss_cons (ps_set (i := 2) scLW.nd rfl (.inl rfl) (pe_ix ix_str pe_str (pe_bm PySem.F.plainAttrs_list PySem.F.slot_list_index PySem.F.type_list_index mt_index (pe_lst (pa_cons pe_str (pa_cons pe_str (pa_cons pe_str (pa_cons pe_str (pa_cons pe_str (pa_cons pe_str (pa_cons pe_str pa_nil)))))))) (pa_cons (pv 1) pa_nil)) (fun _ _ => rfl)))
      (pss_one (ps_ret (pe_op op_add_str (pe_op op_add_str (pe_op op_add_str (pe_op op_add_str pe_str (pe_cl CT hr (pa_cons (pe_ix ix_tup (pv 0) pe_int (fun _ _ => rfl)) pa_nil))) (pv 2))
        (pe_cl CT hr (pa_cons (pe_ix ix_tup (pv 0) pe_int (fun _ _ => rfl)) pa_nil))) pe_str)))))), ?_⟩
    cases e with
    | num k =>
      unfold ExOk at hE
      obtain ⟨a, rfl, h1⟩ := at_num hv
      refine ⟨_, rfl, a, _, 0, _, rfl, rfl, SqT.of h1, atI_nat (j := 0) rfl, ?_⟩
      refine ⟨_, rfl, rfl, _, rfl, ifT (decide_eq_true rfl) ?_⟩
      exact ⟨_, rfl, a, _, 1, _, rfl, rfl, SqT.of h1, atI_nat (j := 1) rfl, _, rfl, small_log hE, q H (Same.refl H)⟩
    | nam x =>
      obtain ⟨a, rfl, h1⟩ := at_nam hv
      refine ⟨_, rfl, a, _, 0, _, rfl, rfl, SqT.of h1, atI_nat (j := 0) rfl, ?_⟩
      refine ⟨_, rfl, rfl, _, rfl, ifF (by decide +kernel) ?_⟩
      refine ⟨_, rfl, rfl, _, rfl, ifT (decide_eq_true rfl) ?_⟩
      exact ⟨_, rfl, a, _, 1, _, rfl, rfl, SqT.of h1, atI_nat (j := 1) rfl, q H (Same.refl H)⟩
    | bin o x y =>
      cases d with
      | zero =>
        unfold ExOk at hE
        exact hE.elim
      | succ d =>
        unfold ExOk at hE
        obtain ⟨a, vx, vy, rfl, h1, hx, hy⟩ := at_bin hv
        obtain ⟨z1, z2, z3, z4, z5⟩ := len_bin (o := o) hE.1 hE.2 (by omega)
        have e1 : ("(" : Str).length = 1 := by decide +kernel
        have e3 : (")" : Str).length = 1 := by decide +kernel
        have e2 : o.sign.length = 1 := by cases o <;> decide +kernel
        refine ⟨_, rfl, a, _, 0, _, rfl, rfl, SqT.of h1, atI_nat (j := 0) rfl, ?_⟩
        refine ⟨_, rfl, rfl, _, rfl, ifF (op_not o).1 ?_⟩
        refine ⟨_, rfl, rfl, _, rfl, ifF (op_not o).2 ?_⟩
        -- sign = "+-*/:<="[[..].index(word)]
        refine ⟨szn 7, fun p hp => ?_⟩
        have s0 := same_upd (o := .lst opsL) hp
        have e0 : (upd H p (.lst opsL)) p = some (.lst opsL) := upd_same
        refine ⟨.inl ⟨rfl, _, SqL.of e0⟩, _, rfl, p, opsL, .str o.word, o.ix, .str o.word, rfl, rfl, SqL.of e0, rfl, rfl, ops_at o, ?_, ops_ahead o, ?_⟩
        · show (o.word == o.word) = true
          exact beq_self_eq_true _
        refine ⟨_, _, o.code, rfl, rfl, by decide +kernel, ops_sign o, ?_⟩
        refine ⟨_, rfl, a, _, 1, _, rfl, rfl, SqT.of (s0 _ _ h1), atI_nat (j := 1) rfl, vx, x, d, rfl, hx.mono s0.keep, hE.1, by omega, by omega, fun H1 s1 => ?_⟩
        have s01 := s0.trans s1
        refine ⟨_, _, rfl, rfl, sz (by omega), .str o.sign, (by rw [sign_mk o]; rfl), _, _, rfl, rfl, sz (by omega), ?_⟩
        refine ⟨_, rfl, a, _, 2, _, rfl, rfl, SqT.of (s01 _ _ h1), atI_nat (j := 2) rfl, vy, y, d, rfl, hy.mono s01.keep, hE.2, by omega, by omega, fun H2 s2 => ?_⟩
        exact ⟨_, _, rfl, rfl, sz (by omega), _, _, rfl, rfl, sz (by omega), q H2 (s01.trans s2)⟩
end
end Cf


set_option Elab.async false
set_option linter.all false
set_option autoImplicit false
set_option maxRecDepth 100000
set_option maxHeartbeats 2000000
/-! row_texts, all_texts, book_text. -/
namespace Cf
open PySem PySem.Spec PyProof.Rows L2
/-- lines as values -/
def lnV (ls : List Ln) : List V := ls.map fun l => V.str l.line
theorem lnV_app (a b : List Ln) : lnV (a ++ b) = lnV a ++ lnV b := List.map_append ..
theorem lnV_len (a : List Ln) : (lnV a).length = a.length := List.length_map ..
theorem app_len (x y : Str) : (x ++ y).length = x.length + y.length := by rw [TL.len_tl, TL.tl_append, List.length_append, ← TL.len_tl, ← TL.len_tl]
theorem lnsRs_app : ∀ a b : List Rw, lnsRs (a ++ b) = lnsRs a ++ lnsRs b
  | [], b => by simp [lnsRs]
  | r :: a, b => by simp [lnsRs, lnsRs_app a b]
theorem lns_more {rs : List Rw} {i : Nat} {r : Rw} (h : rs[i]? = some r) : lnsRs (rs.take (i + 1)) = lnsRs (rs.take i) ++ r.lns := by
  rw [List.take_add_one, h, lnsRs_app]
  simp [lnsRs]
theorem lns_take (rs : List Rw) (i : Nat) : (lnsRs (rs.take i)).length ≤ (lnsRs rs).length := by
  have h : lnsRs (rs.take i ++ rs.drop i) = lnsRs rs := by rw [List.take_append_drop]
  rw [lnsRs_app] at h
  have := congrArg List.length h
  rw [List.length_append] at this
  omega
theorem RwsOk.get : ∀ {rs : List Rw} {k i : Nat} {r : Rw}, RwsOk k rs → rs[i]? = some r → RwOk k r
  | [], k, i, r, _, e => by simp at e
  | x :: rs, k, 0, r, h, e => by
    unfold RwsOk at h
    obtain rfl : x = r := Option.some.inj (by simpa using e)
    exact h.1
  | x :: rs, k, i + 1, r, h, e => by
    unfold RwsOk at h
    exact h.2.get (i := i) (by simpa using e)
section
variable {P : Program} {w : World} {K : PySem.W.Frag} {mg : Str → Option Value} {base : Heap}
def spRT (n : Nat) : Sp := fun vs H Q _ => ∃ (v : V) (r : Rw) (k : Nat), vs = [v] ∧ At H v r.enc ∧ RwOk k r ∧ r.dep ≤ n ∧ r.cnt ≤ 1000 ∧
  ∀ (H' : Hp) (p : Addr), Same H H' → H p = none → H' p = some (.lst (lnV r.lns)) → Q (.ref p) H'
def spAT (n : Nat) : Sp := fun vs H Q _ => ∃ (a : Addr) (xs : List V) (rs : List Rw) (k : Nat), vs = [.ref a] ∧ H a = some (.tup xs) ∧ Ats H xs (encRs rs) ∧ RwsOk k rs ∧ depRs rs ≤ n ∧ cntRs rs ≤ 1000 ∧
  ∀ (H' : Hp) (p : Addr), Same H H' → H p = none → H' p = some (.lst (lnV (lnsRs rs))) → Q (.ref p) H'
abbrev sAT : Stmt := top 29
theorem scAT : FnScope ["rows", "found", "row"] ["rows"] (defScope sAT) := ⟨rfl, rfl, rfl, by decide +kernel, rfl, by decide +kernel, by decide +kernel⟩
theorem ok_AT (D : Def K mg "all_texts" sAT) {n k : Nat} (CR : Call P w K mg base k "row_texts" (spRT n)) : Call P w K mg base (k + 1) "all_texts" (spAT n) := by
  refine call_mk D (fun _ _ _ _ _ _ us hl => match us, hl with | [_], _ => rfl) scAT (fun vs H Q E h => ?_) fun f cdv A outer s H vs Q E hr h => ?_
  · obtain ⟨a, xs, rs, k, rfl, _⟩ := h
    rfl
  obtain ⟨a, xs, rs, kk, rfl, ha, hx, hok, hd, hc, q⟩ := h
  refine ⟨_, pss_cons (ps_set (i := 1) scAT.nd rfl (.inl rfl) (pe_lst pa_nil))
    (pss_cons (ps_for PassesOwn.never rfl (pi_tup (pv 0)) (pg_name (i := 2) scAT.nd rfl (.inl rfl))
      (pss_one (ps_expr (pe_bm PySem.F.plainAttrs_list PySem.F.slot_list_extend PySem.F.type_list_extend mt_extend (pv 1) (pa_cons (pe_cl CR hr (pa_cons (pv 2) pa_nil)) pa_nil)))))
    (pss_one (ps_ret (pv 1)))), ?_⟩
  refine ⟨szn 0, fun L hL => ?_⟩
  have s0 := same_upd (o := .lst []) hL
  have few := lnsRs_few rs
  refine ⟨_, rfl, a, rfl, ⟨xs, SqT.of (s0 _ _ ha)⟩, for_tup (K := K) (a := a) (xs := xs) (fun i σ H' => ∃ y : Option V, σ = [some (.ref a), some (.ref L), y] ∧ Same H H' ∧ H' L = some (.lst (lnV (lnsRs (rs.take i)))))
    ⟨none, rfl, s0, by rw [upd_same]; simp [lnsRs, lnV]⟩ (fun i σ H' _ ⟨_, _, s1, _⟩ => SqT.of (s1 _ _ ha)) ?_ ?_⟩
  · rintro i x σ H1 hi ⟨y, rfl, s1, eL⟩
    obtain ⟨d, hdi, Ad⟩ := hx.getV hi
    rw [encRs_map, List.getElem?_map] at hdi
    cases hri : rs[i]? with
    | none =>
      rw [hri] at hdi
      cases hdi
    | some r =>
      rw [hri] at hdi
      obtain rfl : r.enc = d := Option.some.inj hdi
      have hm : r ∈ rs := List.mem_of_getElem? hri
      have c1 := cnt_mem hm
      have d1 := dep_mem hm
      have t1 := lns_take rs (i + 1)
      rw [lns_more hri, List.length_append] at t1
      refine ⟨_, rfl, .inl ⟨rfl, _, SqL.of eL⟩, _, rfl, x, r, kk, rfl, Ad.mono s1.keep, hok.get hri, by omega, by omega, fun H2 p2 s2 n2 e2 => ?_⟩
      refine ⟨L, p2, _, _, rfl, rfl, s2 _ _ eL, e2, by rw [lnV_len, lnV_len]; exact sz (by omega), ?_⟩
      refine ⟨_, rfl, (s1.trans s2).mut hL, ?_⟩
      rw [upd_same, lns_more hri, lnV_app]
  · rintro σ H1 ⟨y, rfl, s1, eL⟩
    have el : rs.take xs.length = rs := List.take_of_length_le (by rw [hx.len, encRs_map, List.length_map]; exact Nat.le_refl _)
    rw [el] at eL
    exact ⟨_, rfl, q H1 L s1 hL eL⟩
abbrev sRT : Stmt := top 28
theorem scRT : FnScope ["row", "word", "first", "arg"] ["row"] (defScope sRT) := ⟨rfl, rfl, rfl, by decide +kernel, rfl, by decide +kernel, by decide +kernel⟩
/-- a call's words: the list of its args' texts -/
theorem args_room {as : List Ex} (h : ∀ e ∈ as, ExOk 4 e) (h4 : as.length ≤ 4) (x d : Str) (m : Nat) (hx : Nm 4 x) (hd : Nm 8 d) (hm : m ≤ 99) :
    ((("call" : Str) :: x :: d :: numS m :: as.map Ex.text).map (·.length)).sum + (("call" : Str) :: x :: d :: numS m :: as.map Ex.text).length * (" " : Str).length ≤ 16777216 := by
  have okl : LnOk (.call x d as m) := ⟨hx, hd, h4, h, hm⟩
  have h2 := sum_le (k := 141) (Ln.call x d as m).words fun w hw => (words_ok okl w hw).1
  have h3 := words_len okl
  have h5 : (" " : Str).length = 1 := by decide +kernel
  rw [h5]
  have e : (Ln.call x d as m).words = ("call" : Str) :: x :: d :: numS m :: as.map Ex.text := rfl
  rw [e] at h2 h3
  omega
theorem ok_RT (T : TxA mg) (D : Def K mg "row_texts" sRT) {n k : Nat} (hk : 5 ≤ k) (CE : Call P w K mg base 5 "expression_text" (spET 5)) (CA : Call P w K mg base k "all_texts" (spAT n)) : Call P w K mg base (k + 1) "row_texts" (spRT (n + 1)) := by
  refine call_mk D (fun _ _ _ _ _ _ us hl => match us, hl with | [_], _ => rfl) scRT (fun vs H Q E h => ?_) fun f cdv A outer s H vs Q E hr h => ?_
  · obtain ⟨v, r, k, rfl, _⟩ := h
    rfl
  obtain ⟨v, r, kk, rfl, hv, hok, hd, hc, q⟩ := h
  refine ⟨_, pss_cons (ps_set (i := 1) scRT.nd rfl (.inl rfl) (pe_ix ix_tup (pv 0) pe_int (fun _ _ => rfl)))
    (pss_cons (ps_if (pt_cmpR op_eq (pv 1) pe_str (nomark _)) (pss_one (ps_ret (pe_lst (pa_cons (pe_op op_add_str (pe_op op_add_str (pe_op op_add_str pe_str (pe_ix ix_tup (pv 0) pe_int (fun _ _ => rfl))) pe_str) (pe_cl CE hr (pa_cons (pe_ix ix_tup (pv 0) pe_int (fun _ _ => rfl)) pa_nil))) pa_nil)))) pss_nil)
    (pss_cons (ps_if (pt_cmpR op_eq (pv 1) pe_str (nomark _)) (pss_one (ps_ret (pe_lst (pa_cons (pe_join pe_str (pe_op op_cat
        (pe_lst (pa_cons pe_str (pa_cons (pe_ix ix_tup (pv 0) pe_int (fun _ _ => rfl)) (pa_cons (pe_ix ix_tup (pv 0) pe_int (fun _ _ => rfl)) (pa_cons (pe_callTy call_str_int (by rfl) T.str (by decide +kernel) (pa_cons (pe_ix ix_tup (pv 0) pe_int (fun _ _ => rfl)) pa_nil)) pa_nil)))))
        (pe_lc (own := [("arg", 3)]) (g := gName 3) (by rfl) scRT.nd (pi_tup (pe_ix ix_tup (pv 0) pe_int (fun _ _ => rfl))) (blkOk_by (own := [("arg", 3)]) (N := ["row", "word", "first", "arg"]) (sc := defScope sRT) (by decide +kernel)) (fun _ _ _ _ _ => pg_name (i := 3) scRT.nd rfl (Or.inl rfl)) (fun _ _ _ _ _ => pts_nil)
          (fun _ _ _ _ _ => pe_cl CE hr (pa_cons (pv 3) pa_nil))))) pa_nil)))) pss_nil)
    (pss_cons (ps_set (i := 2) scRT.nd rfl (.inl rfl) (pe_op op_add_str (pe_op op_add_str (pv 1) pe_str) (pe_cl CE hr (pa_cons (pe_ix ix_tup (pv 0) pe_int (fun _ _ => rfl)) pa_nil))))
    (pss_cons (ps_if (pt_cmpR op_eq (pv 1) pe_str (nomark _)) (pss_one (ps_ret (pe_lst (pa_cons (pv 2) pa_nil)))) pss_nil)
    (pss_cons (ps_if (pt_cmpR op_eq (pv 1) pe_str (nomark _)) (pss_one (ps_ret (pe_op op_cat (pe_op op_cat (pe_lst (pa_cons (pv 2) pa_nil)) (pe_cl CA hr (pa_cons (pe_ix ix_tup (pv 0) pe_int (fun _ _ => rfl)) pa_nil))) (pe_lst (pa_cons pe_str pa_nil))))) pss_nil)
    (pss_one (ps_ret (pe_op op_cat (pe_op op_cat (pe_op op_cat (pe_op op_cat (pe_lst (pa_cons (pv 2) pa_nil)) (pe_cl CA hr (pa_cons (pe_ix ix_tup (pv 0) pe_int (fun _ _ => rfl)) pa_nil))) (pe_lst (pa_cons pe_str pa_nil)))
      (pe_cl CA hr (pa_cons (pe_ix ix_tup (pv 0) pe_int (fun _ _ => rfl)) pa_nil))) (pe_lst (pa_cons pe_str pa_nil)))))))))), ?_⟩
  have lb : (" " : Str).length = 1 := by decide +kernel
  have ls : ("set " : Str).length = 4 := by decide +kernel
  have lw : ("when" : Str).length = 4 ∧ ("turn" : Str).length = 4 ∧ ("say" : Str).length = 3 := by decide +kernel
  cases r with
  | set x e =>
    obtain ⟨a, ve, rfl, h1, hA⟩ := at_set hv
    unfold RwOk at hok
    obtain ⟨hx, hE⟩ := hok
    have t1 := text_len4 hE
    have t2 := hx.2.1
    refine ⟨_, rfl, a, _, 0, _, rfl, rfl, SqT.of h1, atI_nat (j := 0) rfl, ?_⟩
    refine ⟨_, rfl, rfl, _, rfl, ifT (decide_eq_true rfl) ?_⟩
    refine ⟨_, rfl, a, _, 1, _, rfl, rfl, SqT.of h1, atI_nat (j := 1) rfl, _, _, rfl, rfl, sz (by omega), _, _, rfl, rfl, sz (by rw [app_len]; omega), ?_⟩
    refine ⟨_, rfl, a, _, 2, _, rfl, rfl, SqT.of h1, atI_nat (j := 2) rfl, ve, e, 4, rfl, hA, hE, by omega, by omega, fun H1 s1 => ?_⟩
    refine ⟨_, _, rfl, rfl, sz (by rw [app_len, app_len]; omega), szn 1, fun p hp => q _ p (s1.trans (same_upd hp)) (s1.free hp) ?_⟩
    rw [upd_same, line_set]
    simp [Rw.lns, lnV]
  | call x d as m =>
    obtain ⟨a, b, us, rfl, h1, h2, hA⟩ := at_call hv
    unfold RwOk at hok
    obtain ⟨hx, hdd, h4, hE, hm⟩ := hok
    refine ⟨_, rfl, a, _, 0, _, rfl, rfl, SqT.of h1, atI_nat (j := 0) rfl, ?_⟩
    refine ⟨_, rfl, rfl, _, rfl, ifF (by decide +kernel) ?_⟩
    refine ⟨_, rfl, rfl, _, rfl, ifT (decide_eq_true rfl) ?_⟩
    refine ⟨⟨_, rfl⟩, ?_⟩
    refine ⟨_, rfl, a, _, 1, _, rfl, rfl, SqT.of h1, atI_nat (j := 1) rfl, _, rfl, a, _, 2, _, rfl, rfl, SqT.of h1, atI_nat (j := 2) rfl, _, rfl, a, _, 4, _, rfl, rfl, SqT.of h1, atI_nat (j := 4) rfl, _, rfl, small_log (by omega), szn 4, fun p1 n1 => ?_⟩
    have s1 := same_upd (o := .lst [V.str "call", V.str x, V.str d, V.str (numS m)]) n1
    have e1 : (upd H p1 (.lst [V.str "call", V.str x, V.str d, V.str (numS m)])) p1 = some (.lst [V.str "call", V.str x, V.str d, V.str (numS m)]) := upd_same
    refine ⟨_, rfl, a, _, 3, _, rfl, rfl, SqT.of (s1 _ _ h1), atI_nat (j := 3) rfl, b, rfl, ⟨us, SqT.of (s1 _ _ h2)⟩, fun L hL => ?_⟩
    have hA1 := hA.mono s1.keep
    have lus : us.length = as.length := by rw [hA.len, List.length_map]
    refine lc_it (walk_tup (xs := us)) (fun i H' => Same (upd H p1 (.lst [V.str "call", V.str x, V.str d, V.str (numS m)])) H' ∧ H' L = some (.lst ((as.take i).map fun e => V.str e.text))) ⟨same_upd hL, upd_same⟩ (fun i H' _ p => SqT.of (p.1 _ _ (s1 _ _ h2))) (fun i y Ha Hb hi p hy => ?_) (fun H5 pc => ?_)
    · obtain ⟨rfl, hy⟩ := hy
      obtain ⟨dd, hdd, Ay⟩ := hA1.getV hy
      have hg : as[i]? = some (as[i]'(by omega)) := List.getElem?_eq_getElem (by omega)
      rw [List.getElem?_map, hg] at hdd
      obtain rfl : (as[i]'(by omega)).enc = dd := Option.some.inj hdd
      refine ⟨rfl, _, rfl, y, as[i]'(by omega), 4, rfl, Ay.mono p.1.keep, hE _ (List.getElem_mem (by omega)), by omega, by omega, fun H6 s6 => ?_⟩
      refine ⟨_, s6 _ _ p.2, ?_, (p.1.trans s6).mut hL, snoc_take (fun e => V.str (Ex.text e)) hg⟩
      rw [List.length_map, List.length_take]
      exact szl (by omega)
    · have pc2 := pc.2
      rw [lus, List.take_of_length_le (Nat.le_refl _)] at pc2
      refine ⟨p1, L, _, _, rfl, rfl, pc.1 _ _ e1, pc2, ?_, fun p2 n2 => ?_⟩
      · rw [List.length_map]
        exact sz (by simp only [List.length_cons, List.length_nil]; omega)
      have e2 : ([V.str "call", V.str x, V.str d, V.str (numS m)] ++ as.map fun e => V.str e.text) = (("call" : Str) :: x :: d :: numS m :: as.map Ex.text).map V.str := by simp
      rw [e2]
      refine ⟨" ", p2, ("call" : Str) :: x :: d :: numS m :: as.map Ex.text, rfl, rfl, .inl (SqL.of upd_same), args_room hE h4 x d m hx hdd hm, szn 1, fun p3 n3 => ?_⟩
      have s13 := (s1.trans pc.1).trans (same_upd (o := .lst ((("call" : Str) :: x :: d :: numS m :: as.map Ex.text).map V.str)) n2)
      refine q _ p3 (s13.trans (same_upd n3)) (s13.free n3) ?_
      rw [upd_same]
      simp [Rw.lns, lnV, Ln.line, Ln.words]
  | say e =>
    obtain ⟨a, ve, rfl, h1, hA⟩ := at_say hv
    unfold RwOk at hok
    have t1 := text_len4 hok
    refine ⟨_, rfl, a, _, 0, _, rfl, rfl, SqT.of h1, atI_nat (j := 0) rfl, ?_⟩
    refine ⟨_, rfl, rfl, _, rfl, ifF (by decide +kernel) ?_⟩
    refine ⟨_, rfl, rfl, _, rfl, ifF (by decide +kernel) ?_⟩
    refine ⟨_, rfl, _, _, rfl, rfl, sz (by omega), ?_⟩
    refine ⟨_, rfl, a, _, 1, _, rfl, rfl, SqT.of h1, atI_nat (j := 1) rfl, ve, e, 4, rfl, hA, hok, by omega, by omega, fun H1 s1 => ?_⟩
    refine ⟨_, _, rfl, rfl, sz (by rw [app_len]; omega), ?_⟩
    refine ⟨_, rfl, rfl, _, rfl, ifT (decide_eq_true rfl) ?_⟩
    refine ⟨_, rfl, szn 1, fun p hp => q _ p (s1.trans (same_upd hp)) (s1.free hp) ?_⟩
    rw [upd_same, ← join2]
    simp [Rw.lns, lnV, Ln.line, Ln.words]
  | turn e rs =>
    obtain ⟨a, ve, b, us, rfl, h1, hA, h2, hU⟩ := at_turn hv
    cases kk with
    | zero =>
      unfold RwOk at hok
      exact hok.elim
    | succ kk =>
    unfold RwOk at hok
    have t1 := text_len4 hok.1
    simp only [Rw.dep, Rw.cnt] at hd hc
    have few := lnsRs_few rs
    refine ⟨_, rfl, a, _, 0, _, rfl, rfl, SqT.of h1, atI_nat (j := 0) rfl, ?_⟩
    refine ⟨_, rfl, rfl, _, rfl, ifF (by decide +kernel) ?_⟩
    refine ⟨_, rfl, rfl, _, rfl, ifF (by decide +kernel) ?_⟩
    refine ⟨_, rfl, _, _, rfl, rfl, sz (by omega), ?_⟩
    refine ⟨_, rfl, a, _, 1, _, rfl, rfl, SqT.of h1, atI_nat (j := 1) rfl, ve, e, 4, rfl, hA, hok.1, by omega, by omega, fun H1 s1 => ?_⟩
    refine ⟨_, _, rfl, rfl, sz (by rw [app_len]; omega), ?_⟩
    refine ⟨_, rfl, rfl, _, rfl, ifF (by decide +kernel) ?_⟩
    refine ⟨_, rfl, rfl, _, rfl, ifT (decide_eq_true rfl) ?_⟩
    -- [first] + all_texts(row[2]) + ["end"]
    refine ⟨_, rfl, szn 1, fun p1 n1 => ?_⟩
    have s2 := same_upd (o := .lst [V.str ((("turn" : Str) ++ (" " : Str)) ++ e.text)]) n1
    have s12 := s1.trans s2
    refine ⟨_, rfl, a, _, 2, _, rfl, rfl, SqT.of (s12 _ _ h1), atI_nat (j := 2) rfl, b, us, rs, kk, rfl, s12 _ _ h2, hU.mono s12.keep, hok.2, by omega, by omega, fun H2 p2 s3 n2 e2 => ?_⟩
    refine ⟨p1, p2, _, _, rfl, rfl, s3 _ _ upd_same, e2, by rw [lnV_len]; exact sz (by simp only [List.length_singleton]; omega), fun p3 n3 => ?_⟩
    refine ⟨szn 1, fun p4 n4 => ?_⟩
    refine ⟨p3, p4, _, _, rfl, rfl, same_upd n4 _ _ upd_same, upd_same, by rw [List.length_append, lnV_len]; exact sz (by simp only [List.length_singleton]; omega), fun p5 n5 => ?_⟩
    have sa := (((s12.trans s3).trans (same_upd (o := .lst ([V.str ((("turn" : Str) ++ (" " : Str)) ++ e.text)] ++ lnV (lnsRs rs))) n3)).trans (same_upd (o := .lst [V.str "end"]) n4))
    refine q _ p5 (sa.trans (same_upd n5)) (sa.free n5) ?_
    rw [upd_same, line_turn]
    simp [Rw.lns, lnV, line_fin]
  | when e rs os =>
    obtain ⟨a, ve, b, c, us, ws, rfl, h1, hA, h2, hU, h3, hW⟩ := at_when hv
    cases kk with
    | zero =>
      unfold RwOk at hok
      exact hok.elim
    | succ kk =>
    unfold RwOk at hok
    have t1 := text_len4 hok.1
    simp only [Rw.dep, Rw.cnt] at hd hc
    have few := lnsRs_few rs
    have few2 := lnsRs_few os
    refine ⟨_, rfl, a, _, 0, _, rfl, rfl, SqT.of h1, atI_nat (j := 0) rfl, ?_⟩
    refine ⟨_, rfl, rfl, _, rfl, ifF (by decide +kernel) ?_⟩
    refine ⟨_, rfl, rfl, _, rfl, ifF (by decide +kernel) ?_⟩
    refine ⟨_, rfl, _, _, rfl, rfl, sz (by omega), ?_⟩
    refine ⟨_, rfl, a, _, 1, _, rfl, rfl, SqT.of h1, atI_nat (j := 1) rfl, ve, e, 4, rfl, hA, hok.1, by omega, by omega, fun H1 s1 => ?_⟩
    refine ⟨_, _, rfl, rfl, sz (by rw [app_len]; omega), ?_⟩
    refine ⟨_, rfl, rfl, _, rfl, ifF (by decide +kernel) ?_⟩
    refine ⟨_, rfl, rfl, _, rfl, ifF (by decide +kernel) ?_⟩
    -- [first] + all_texts(row[2]) + ["else"] + all_texts(row[3]) + ["end"]
    refine ⟨_, rfl, szn 1, fun p1 n1 => ?_⟩
    have s2 := same_upd (o := .lst [V.str ((("when" : Str) ++ (" " : Str)) ++ e.text)]) n1
    have s12 := s1.trans s2
    refine ⟨_, rfl, a, _, 2, _, rfl, rfl, SqT.of (s12 _ _ h1), atI_nat (j := 2) rfl, b, us, rs, kk, rfl, s12 _ _ h2, hU.mono s12.keep, hok.2.1, by omega, by omega, fun H2 p2 s3 n2 e2 => ?_⟩
    refine ⟨p1, p2, _, _, rfl, rfl, s3 _ _ upd_same, e2, by rw [lnV_len]; exact sz (by simp only [List.length_singleton]; omega), fun p3 n3 => ?_⟩
    refine ⟨szn 1, fun p4 n4 => ?_⟩
    refine ⟨p3, p4, _, _, rfl, rfl, same_upd n4 _ _ upd_same, upd_same, by rw [List.length_append, lnV_len]; exact sz (by simp only [List.length_singleton]; omega), fun p5 n5 => ?_⟩
    have s4 := (((s12.trans s3).trans (same_upd (o := .lst ([V.str ((("when" : Str) ++ (" " : Str)) ++ e.text)] ++ lnV (lnsRs rs))) n3)).trans (same_upd (o := .lst [V.str "else"]) n4)).trans (same_upd (o := .lst ([V.str ((("when" : Str) ++ (" " : Str)) ++ e.text)] ++ lnV (lnsRs rs) ++ [V.str "else"])) n5)
    refine ⟨_, rfl, a, _, 3, _, rfl, rfl, SqT.of (s4 _ _ h1), atI_nat (j := 3) rfl, c, ws, os, kk, rfl, s4 _ _ h3, hW.mono s4.keep, hok.2.2, by omega, by omega, fun H6 p6 s6 n6 e6 => ?_⟩
    refine ⟨p5, p6, _, _, rfl, rfl, s6 _ _ upd_same, e6, by rw [lnV_len, List.length_append, List.length_append, lnV_len]; exact sz (by simp only [List.length_singleton]; omega), fun p7 n7 => ?_⟩
    refine ⟨szn 1, fun p8 n8 => ?_⟩
    refine ⟨p7, p8, _, _, rfl, rfl, same_upd n8 _ _ upd_same, upd_same, by rw [List.length_append, List.length_append, List.length_append, lnV_len, lnV_len]; exact sz (by simp only [List.length_singleton]; omega), fun p9 n9 => ?_⟩
    have sa := ((s4.trans s6).trans (same_upd (o := .lst ([V.str ((("when" : Str) ++ (" " : Str)) ++ e.text)] ++ lnV (lnsRs rs) ++ [V.str "else"] ++ lnV (lnsRs os))) n7)).trans (same_upd (o := .lst [V.str "end"]) n8)
    refine q _ p9 (sa.trans (same_upd n9)) (sa.free n9) ?_
    rw [upd_same, line_when]
    simp [Rw.lns, lnV, line_fin, line_els]
end
end Cf


set_option Elab.async false
set_option linter.all false
set_option autoImplicit false
set_option maxRecDepth 100000
set_option maxHeartbeats 2000000
/-! all_texts to any depth, book_text, _law_book_texts. -/
namespace Cf
open PySem PySem.Spec PyProof.Rows L2
theorem dep_pos (r : Rw) : 1 ≤ r.dep := by cases r <;> simp [Rw.dep] <;> omega
theorem lnsB_app : ∀ a b : Bk, lnsB (a ++ b) = lnsB a ++ lnsB b
  | [], b => by simp [lnsB]
  | d :: a, b => by simp [lnsB, lnsB_app a b]
theorem lnsB_more {B : Bk} {i : Nat} {d : Dd} (h : B[i]? = some d) : lnsB (B.take (i + 1)) = lnsB (B.take i) ++ d.lns := by
  rw [List.take_add_one, h, lnsB_app]
  simp [lnsB]
theorem lnsB_take (B : Bk) (i : Nat) : (lnsB (B.take i)).length ≤ (lnsB B).length := by
  have h : lnsB (B.take i ++ B.drop i) = lnsB B := by rw [List.take_append_drop]
  rw [lnsB_app] at h
  have := congrArg List.length h
  rw [List.length_append] at this
  omega
theorem deed_words {n : Str} {ps : List Str} (hn : Nm 8 n) (h4 : ps.length ≤ 4) (hp : ∀ p ∈ ps, Nm 4 p) : ((("deed" : Str) :: n :: ps).map (·.length)).sum + (("deed" : Str) :: n :: ps).length * (" " : Str).length ≤ 16777216 := by
  have okl : LnOk (.deed n ps) := ⟨hn, h4, hp⟩
  have h2 := sum_le (k := 141) (Ln.deed n ps).words fun w hw => (words_ok okl w hw).1
  have h3 := words_len okl
  have h5 : (" " : Str).length = 1 := by decide +kernel
  rw [h5]
  have e : (Ln.deed n ps).words = ("deed" : Str) :: n :: ps := rfl
  rw [e] at h2 h3
  omega
section
variable {P : Program} {w : World} {K : PySem.W.Frag} {mg : Str → Option Value} {base : Heap}
theorem ok_texts (T : TxA mg) (DA : Def K mg "all_texts" sAT) (DR : Def K mg "row_texts" sRT) (CE : Call P w K mg base 5 "expression_text" (spET 5)) : ∀ n : Nat, Call P w K mg base (2 * n + 6) "all_texts" (spAT n) ∧ Call P w K mg base (2 * n + 5) "row_texts" (spRT n)
  | 0 => by
    have CR : Call P w K mg base 5 "row_texts" (spRT 0) := (call_none (ps := ["row"]) DR (fun _ _ _ _ _ _ us hl => match us, hl with | [_], _ => rfl) fun vs H Q E h => by
      obtain ⟨v, r, k, _, _, _, h, _⟩ := h
      have := dep_pos r
      omega).mono (by omega)
    exact ⟨ok_AT DA CR, CR⟩
  | n + 1 => by
    obtain ⟨ih, _⟩ := ok_texts T DA DR CE n
    have CR := ok_RT T DR (by omega) CE ih
    exact ⟨ok_AT DA CR, CR⟩
/-! ### book_text -/
def spBT : Sp := fun vs H Q _ => ∃ (v : V) (B : Bk), vs = [v] ∧ At H v (encB B) ∧ BkOk B ∧ ∀ H', Same H H' → Q (.str (textOf (lnsB B))) H'
abbrev sBT : Stmt := top 30
theorem scBT : FnScope ["book", "found", "name", "params", "rows", "give"] ["book"] (defScope sBT) := ⟨rfl, rfl, rfl, by decide +kernel, rfl, by decide +kernel, by decide +kernel⟩
theorem lnV_strs (ls : List Ln) : lnV ls = (ls.map Ln.line).map V.str := by simp [lnV]
theorem ok_BT (T : TxA mg) (D : Def K mg "book_text" sBT) (CE : Call P w K mg base 5 "expression_text" (spET 5)) (CA : Call P w K mg base 12 "all_texts" (spAT 3)) : Call P w K mg base 13 "book_text" spBT := by
  refine call_mk D (fun _ _ _ _ _ _ us hl => match us, hl with | [_], _ => rfl) scBT (fun vs H Q E h => ?_) fun f cdv A outer s H vs Q E hr h => ?_
  · obtain ⟨v, B, rfl, _⟩ := h
    rfl
  obtain ⟨v, B, rfl, hv, hB, q⟩ := h
  refine ⟨_, pss_cons (ps_set (i := 1) scBT.nd rfl (.inl rfl) (pe_lst pa_nil))
    (pss_cons (ps_for PassesOwn.never rfl (pi_tup (pv 0)) (pg_tup (by rfl) (pgs_cons (pg_name (i := 2) scBT.nd rfl (.inl rfl)) (pgs_cons (pg_name (i := 3) scBT.nd rfl (.inl rfl)) (pgs_cons (pg_name (i := 4) scBT.nd rfl (.inl rfl)) (pgs_cons (pg_name (i := 5) scBT.nd rfl (.inl rfl)) pgs_nil)))))
      (pss_cons (ps_expr (pe_bm PySem.F.plainAttrs_list PySem.F.slot_list_append PySem.F.type_list_append mt_append (pv 1) (pa_cons (pe_join pe_str (pe_op op_cat (pe_lst (pa_cons pe_str (pa_cons (pv 2) pa_nil))) (pe_callTy call_list_of (by rfl) T.list (by decide +kernel) (pa_cons (pv 3) pa_nil)))) pa_nil)))
      (pss_cons (ps_expr (pe_bm PySem.F.plainAttrs_list PySem.F.slot_list_extend PySem.F.type_list_extend mt_extend (pv 1) (pa_cons (pe_cl CA hr (pa_cons (pv 4) pa_nil)) pa_nil)))
      (pss_one (ps_expr (pe_bm PySem.F.plainAttrs_list PySem.F.slot_list_append PySem.F.type_list_append mt_append (pv 1) (pa_cons (pe_op op_add_str pe_str (pe_cl CE hr (pa_cons (pv 5) pa_nil))) pa_nil)))))))
    (pss_one (ps_ret (pe_join pe_str (pv 1))))), ?_⟩
  obtain ⟨a, xs, rfl, ha, hx⟩ := At.inv (show At H v (.tuple (B.map Dd.enc)) from hv)
  have few := lnsB_few B hB.dds
  have h8 := hB.len
  have lg : ("give " : Str).length = 5 := by decide +kernel
  refine ⟨szn 0, fun L hL => ?_⟩
  have s0 := same_upd (o := .lst []) hL
  refine ⟨_, rfl, a, rfl, ⟨xs, SqT.of (s0 _ _ ha)⟩, for_tup (K := K) (a := a) (xs := xs) (fun i σ H' => ∃ y1 y2 y3 y4 : Option V, σ = [some (.ref a), some (.ref L), y1, y2, y3, y4] ∧ Same H H' ∧ H' L = some (.lst (lnV (lnsB (B.take i)))))
    ⟨none, none, none, none, rfl, s0, by rw [upd_same]; simp [lnsB, lnV]⟩ (fun i σ H' _ ⟨_, _, _, _, _, s1, _⟩ => SqT.of (s1 _ _ ha)) ?_ ?_⟩
  · rintro i x σ H1 hi ⟨y1, y2, y3, y4, rfl, s1, eL⟩
    obtain ⟨d, hd, Ad0⟩ := hx.dd hi
    have Ad := Ad0.mono s1.keep
    obtain ⟨p, b, c, us, ve, rfl, h1, h2, h3, h4, h5⟩ := at_dd Ad
    have hdB := List.mem_of_getElem? hd
    have hdd := hB.dds d hdB
    obtain ⟨k1, k2, k3, k4, k5, k6, k7⟩ := id hdd
    have t1 := lnsB_take B (i + 1)
    have t2 : d.lns.length = (lnsRs d.rows).length + 2 := by simp [Dd.lns]
    rw [lnsB_more hd, List.length_append] at t1
    have t3 := text_len4 k7
    refine ⟨p, _, rfl, SqT.of h1, rfl, _, _, rfl, _, _, rfl, _, _, rfl, _, _, rfl, rfl, ?_⟩
    -- found.append(" ".join(["deed", name] + list(params)))
    refine ⟨_, rfl, .inl ⟨rfl, _, SqL.of eL⟩, ⟨_, rfl⟩, _, rfl, szn 2, fun p1 n1 => ?_⟩
    have sA := same_upd (o := .lst [V.str "deed", V.str d.name]) n1
    refine ⟨_, rfl, b, _, rfl, .inr (SqT.of (sA _ _ h2)), fun p2 n2 => ?_⟩
    have sB := same_upd (o := .lst (d.params.map V.str)) n2
    refine ⟨p1, p2, _, _, rfl, rfl, sB _ _ upd_same, upd_same, by rw [List.length_map]; exact sz (by simp only [List.length_cons, List.length_nil]; omega), fun p3 n3 => ?_⟩
    have e3 : ([V.str "deed", V.str d.name] ++ d.params.map V.str) = (("deed" : Str) :: d.name :: d.params).map V.str := rfl
    rw [e3]
    have sC := same_upd (o := .lst ((("deed" : Str) :: d.name :: d.params).map V.str)) n3
    have s13 := (sA.trans sB).trans sC
    refine ⟨" ", p3, ("deed" : Str) :: d.name :: d.params, rfl, rfl, .inl (SqL.of upd_same), deed_words k1 k2 k3, L, _, _, rfl, rfl, s13 _ _ eL, by rw [lnV_len]; exact szl (by omega), ?_⟩
    have s2 := (s1.trans s13).mut hL (o := .lst (lnV (lnsB (B.take i)) ++ [V.str (Ln.deed d.name d.params).line]))
    have eL2 : (upd (upd (upd (upd H1 p1 (.lst [V.str "deed", V.str d.name])) p2 (.lst (d.params.map V.str))) p3 (.lst ((("deed" : Str) :: d.name :: d.params).map V.str))) L (.lst (lnV (lnsB (B.take i)) ++ [V.str (Ln.deed d.name d.params).line]))) L = some (.lst (lnV (lnsB (B.take i)) ++ [V.str (Ln.deed d.name d.params).line])) := upd_same
    have kp : Keep H1 (upd (upd (upd (upd H1 p1 (.lst [V.str "deed", V.str d.name])) p2 (.lst (d.params.map V.str))) p3 (.lst ((("deed" : Str) :: d.name :: d.params).map V.str))) L (.lst (lnV (lnsB (B.take i)) ++ [V.str (Ln.deed d.name d.params).line]))) := s13.keep.trans (Keep.wr (s13 _ _ eL) (by intro xs z; cases z))
    show (tSeq (tDrop (tBM K "list" rExtend (tVar 1) (tCons (tCall (spAT 3) [] E0 (tCons (tVar 4) tNil)) tNil))) (tDrop (tBM K "list" rAppend (tVar 1) (tCons (tOp (fun x y H Q => ∃ i j, x = .str i ∧ y = .str j ∧ i.length + j.length ≤ sizeLine ∧ Q (.str (i ++ j)) H) (tC (.str "give ")) (tCall (spET 5) [] E0 (tCons (tVar 5) tNil))) tNil)))) _ _
      (upd (upd (upd (upd H1 p1 (.lst [V.str "deed", V.str d.name])) p2 (.lst (d.params.map V.str))) p3 (.lst ((("deed" : Str) :: d.name :: d.params).map V.str))) L (.lst (lnV (lnsB (B.take i)) ++ [V.str (Ln.deed d.name d.params).line])))
    generalize upd (upd (upd (upd H1 p1 (.lst [V.str "deed", V.str d.name])) p2 (.lst (d.params.map V.str))) p3 (.lst ((("deed" : Str) :: d.name :: d.params).map V.str))) L (.lst (lnV (lnsB (B.take i)) ++ [V.str (Ln.deed d.name d.params).line])) = H2 at s2 eL2 kp
    -- found.extend(all_texts(rows))
    refine ⟨_, rfl, .inl ⟨rfl, _, SqL.of eL2⟩, _, rfl, c, us, d.rows, 2, rfl, kp _ _ h3, h4.mono kp, k5, depRs_ok _ 2 k5, by omega, fun H3 p5 s3 n5 e5 => ?_⟩
    refine ⟨L, p5, _, _, rfl, rfl, s3 _ _ eL2, e5, by rw [List.length_append, lnV_len, lnV_len]; exact sz (by simp only [List.length_singleton]; omega), ?_⟩
    have s4 := (s2.trans s3).mut hL (o := .lst (lnV (lnsB (B.take i)) ++ [V.str (Ln.deed d.name d.params).line] ++ lnV (lnsRs d.rows)))
    have k4' : Keep H2 (upd H3 L (.lst (lnV (lnsB (B.take i)) ++ [V.str (Ln.deed d.name d.params).line] ++ lnV (lnsRs d.rows)))) := s3.keep.trans (Keep.wr (s3 _ _ eL2) (by intro xs z; cases z))
    have eL4 : (upd H3 L (.lst (lnV (lnsB (B.take i)) ++ [V.str (Ln.deed d.name d.params).line] ++ lnV (lnsRs d.rows)))) L = some (.lst (lnV (lnsB (B.take i)) ++ [V.str (Ln.deed d.name d.params).line] ++ lnV (lnsRs d.rows))) := upd_same
    generalize upd H3 L (.lst (lnV (lnsB (B.take i)) ++ [V.str (Ln.deed d.name d.params).line] ++ lnV (lnsRs d.rows))) = H4 at s4 k4' eL4
    -- found.append("give " + expression_text(give))
    refine ⟨_, rfl, .inl ⟨rfl, _, SqL.of eL4⟩, _, rfl, ve, d.give, 4, rfl, h5.mono (kp.trans k4'), k7, by omega, by omega, fun H5 s5 => ?_⟩
    refine ⟨_, _, rfl, rfl, sz (by omega), L, _, _, rfl, rfl, s5 _ _ eL4, by rw [List.length_append, List.length_append, lnV_len, lnV_len]; exact szl (by simp only [List.length_singleton]; omega), ?_⟩
    refine ⟨_, _, _, _, rfl, (s4.trans s5).mut hL, ?_⟩
    rw [upd_same, line_give, lnsB_more hd, lnV_app]
    simp [Dd.lns, lnV]
  · rintro σ H1 ⟨y1, y2, y3, y4, rfl, s1, eL⟩
    have el : B.take xs.length = B := List.take_of_length_le (by rw [hx.len, List.length_map]; exact Nat.le_refl _)
    rw [el, lnV_strs] at eL
    refine ⟨⟨_, rfl⟩, _, rfl, "\n", L, (lnsB B).map Ln.line, rfl, rfl, .inl (SqL.of eL), Nat.le_trans (bk_room hB.dds hB.len) (by decide), ?_⟩
    exact q H1 s1
end
end Cf


set_option Elab.async false
set_option linter.all false
set_option autoImplicit false
set_option maxRecDepth 100000
set_option maxHeartbeats 2000000
/-! _law_row_texts, _law_texts, _law_book_texts. -/
namespace Cf
open PySem PySem.Spec PyProof.Rows L2
section
variable {P : Program} {w : World} {K : PySem.W.Frag} {mg : Str → Option Value} {base : Heap}
abbrev sLT : Stmt := top 54
theorem scLT : FnScope ["rows", "found", "row"] ["rows"] (defScope sLT) := ⟨rfl, rfl, rfl, by decide +kernel, rfl, by decide +kernel, by decide +kernel⟩
theorem ok_LT (D : Def K mg "_law_texts" sLT) {n k : Nat} (CR : Call P w K mg base k "_law_row_texts" (spRT n)) : Call P w K mg base (k + 1) "_law_texts" (spAT n) := by
  refine call_mk D (fun _ _ _ _ _ _ us hl => match us, hl with | [_], _ => rfl) scLT (fun vs H Q E h => ?_) fun f cdv A outer s H vs Q E hr h => ?_
  · obtain ⟨a, xs, rs, k, rfl, _⟩ := h
    rfl
  obtain ⟨a, xs, rs, kk, rfl, ha, hx, hok, hd, hc, q⟩ := h
  refine ⟨_, pss_cons (ps_set (i := 1) scLT.nd rfl (.inl rfl) (pe_lst pa_nil))
    (pss_cons (ps_for PassesOwn.never rfl (pi_tup (pv 0)) (pg_name (i := 2) scLT.nd rfl (.inl rfl))
      (pss_one (ps_expr (pe_bm PySem.F.plainAttrs_list PySem.F.slot_list_extend PySem.F.type_list_extend mt_extend (pv 1) (pa_cons (pe_cl CR hr (pa_cons (pv 2) pa_nil)) pa_nil)))))
    (pss_one (ps_ret (pv 1)))), ?_⟩
  refine ⟨szn 0, fun L hL => ?_⟩
  have s0 := same_upd (o := .lst []) hL
  have few := lnsRs_few rs
  refine ⟨_, rfl, a, rfl, ⟨xs, SqT.of (s0 _ _ ha)⟩, for_tup (K := K) (a := a) (xs := xs) (fun i σ H' => ∃ y : Option V, σ = [some (.ref a), some (.ref L), y] ∧ Same H H' ∧ H' L = some (.lst (lnV (lnsRs (rs.take i)))))
    ⟨none, rfl, s0, by rw [upd_same]; simp [lnsRs, lnV]⟩ (fun i σ H' _ ⟨_, _, s1, _⟩ => SqT.of (s1 _ _ ha)) ?_ ?_⟩
  · rintro i x σ H1 hi ⟨y, rfl, s1, eL⟩
    obtain ⟨d, hdi, Ad⟩ := hx.getV hi
    rw [encRs_map, List.getElem?_map] at hdi
    cases hri : rs[i]? with
    | none =>
      rw [hri] at hdi
      cases hdi
    | some r =>
      rw [hri] at hdi
      obtain rfl : r.enc = d := Option.some.inj hdi
      have hm : r ∈ rs := List.mem_of_getElem? hri
      have c1 := cnt_mem hm
      have d1 := dep_mem hm
      have t1 := lns_take rs (i + 1)
      rw [lns_more hri, List.length_append] at t1
      refine ⟨_, rfl, .inl ⟨rfl, _, SqL.of eL⟩, _, rfl, x, r, kk, rfl, Ad.mono s1.keep, hok.get hri, by omega, by omega, fun H2 p2 s2 n2 e2 => ?_⟩
      refine ⟨L, p2, _, _, rfl, rfl, s2 _ _ eL, e2, by rw [lnV_len, lnV_len]; exact sz (by omega), ?_⟩
      refine ⟨_, rfl, (s1.trans s2).mut hL, ?_⟩
      rw [upd_same, lns_more hri, lnV_app]
  · rintro σ H1 ⟨y, rfl, s1, eL⟩
    have el : rs.take xs.length = rs := List.take_of_length_le (by rw [hx.len, encRs_map, List.length_map]; exact Nat.le_refl _)
    rw [el] at eL
    exact ⟨_, rfl, q H1 L s1 hL eL⟩
abbrev sLR : Stmt := top 53
theorem scLR : FnScope ["row", "words", "found", "arg"] ["row"] (defScope sLR) := ⟨rfl, rfl, rfl, by decide +kernel, rfl, by decide +kernel, by decide +kernel⟩
theorem ok_LR (T : TxA mg) (D : Def K mg "_law_row_texts" sLR) {n k : Nat} (hk : 5 ≤ k) (CE : Call P w K mg base 5 "_law_written" (spET 5)) (CA : Call P w K mg base k "_law_texts" (spAT n)) : Call P w K mg base (k + 1) "_law_row_texts" (spRT (n + 1)) := by
  refine call_mk D (fun _ _ _ _ _ _ us hl => match us, hl with | [_], _ => rfl) scLR (fun vs H Q E h => ?_) fun f cdv A outer s H vs Q E hr h => ?_
  · obtain ⟨v, r, k, rfl, _⟩ := h
    rfl
  obtain ⟨v, r, kk, rfl, hv, hok, hd, hc, q⟩ := h
  refine ⟨_, pss_cons (ps_if (pt_cmpR op_eq (pe_ix ix_tup (pv 0) pe_int (fun _ _ => rfl)) pe_str (nomark _)) (pss_one (ps_ret (pe_lst (pa_cons (pe_op op_add_str (pe_op op_add_str (pe_op op_add_str pe_str (pe_ix ix_tup (pv 0) pe_int (fun _ _ => rfl))) pe_str) (pe_cl CE hr (pa_cons (pe_ix ix_tup (pv 0) pe_int (fun _ _ => rfl)) pa_nil))) pa_nil)))) pss_nil)
    (pss_cons (ps_if (pt_cmpR op_eq (pe_ix ix_tup (pv 0) pe_int (fun _ _ => rfl)) pe_str (nomark _)) (pss_one (ps_ret (pe_lst (pa_cons (pe_op op_add_str pe_str (pe_cl CE hr (pa_cons (pe_ix ix_tup (pv 0) pe_int (fun _ _ => rfl)) pa_nil))) pa_nil)))) pss_nil)
    (pss_cons (ps_if (pt_cmpR op_eq (pe_ix ix_tup (pv 0) pe_int (fun _ _ => rfl)) pe_str (nomark _))
      (pss_cons (ps_set (i := 1) scLR.nd rfl (.inl rfl) (pe_op op_cat
        (pe_lst (pa_cons pe_str (pa_cons (pe_ix ix_tup (pv 0) pe_int (fun _ _ => rfl)) (pa_cons (pe_ix ix_tup (pv 0) pe_int (fun _ _ => rfl)) (pa_cons (pe_callTy call_str_int (by rfl) T.str (by decide +kernel) (pa_cons (pe_ix ix_tup (pv 0) pe_int (fun _ _ => rfl)) pa_nil)) pa_nil)))))
        (pe_lc (own := [("arg", 3)]) (g := gName 3) (by rfl) scLR.nd (pi_tup (pe_ix ix_tup (pv 0) pe_int (fun _ _ => rfl))) (blkOk_by (own := [("arg", 3)]) (N := ["row", "words", "found", "arg"]) (sc := defScope sLR) (by decide +kernel)) (fun _ _ _ _ _ => pg_name (i := 3) scLR.nd rfl (Or.inl rfl)) (fun _ _ _ _ _ => pts_nil)
          (fun _ _ _ _ _ => pe_cl CE hr (pa_cons (pv 3) pa_nil)))))
      (pss_one (ps_ret (pe_lst (pa_cons (pe_join pe_str (pv 1)) pa_nil))))) pss_nil)
    (pss_cons (ps_set (i := 2) scLR.nd rfl (.inl rfl) (pe_op op_cat (pe_lst (pa_cons (pe_op op_add_str (pe_op op_add_str (pe_ix ix_tup (pv 0) pe_int (fun _ _ => rfl)) pe_str) (pe_cl CE hr (pa_cons (pe_ix ix_tup (pv 0) pe_int (fun _ _ => rfl)) pa_nil))) pa_nil)) (pe_cl CA hr (pa_cons (pe_ix ix_tup (pv 0) pe_int (fun _ _ => rfl)) pa_nil))))
    (pss_cons (ps_if (pt_cmpR op_eq (pe_ix ix_tup (pv 0) pe_int (fun _ _ => rfl)) pe_str (nomark _)) (pss_one (ps_set (i := 2) scLR.nd rfl (.inl rfl) (pe_op op_cat (pe_op op_cat (pv 2) (pe_lst (pa_cons pe_str pa_nil))) (pe_cl CA hr (pa_cons (pe_ix ix_tup (pv 0) pe_int (fun _ _ => rfl)) pa_nil))))) pss_nil)
    (pss_one (ps_ret (pe_op op_cat (pv 2) (pe_lst (pa_cons pe_str pa_nil))))))))), ?_⟩
  have lb : (" " : Str).length = 1 := by decide +kernel
  have ls : ("set " : Str).length = 4 ∧ ("say " : Str).length = 4 := by decide +kernel
  have lw : ("when" : Str).length = 4 ∧ ("turn" : Str).length = 4 := by decide +kernel
  cases r with
  | set x e =>
    obtain ⟨a, ve, rfl, h1, hA⟩ := at_set hv
    unfold RwOk at hok
    obtain ⟨hx, hE⟩ := hok
    have t1 := text_len4 hE
    have t2 := hx.2.1
    refine ⟨_, rfl, a, _, 0, _, rfl, rfl, SqT.of h1, atI_nat (j := 0) rfl, rfl, _, rfl, ifT (decide_eq_true rfl) ?_⟩
    refine ⟨_, rfl, a, _, 1, _, rfl, rfl, SqT.of h1, atI_nat (j := 1) rfl, _, _, rfl, rfl, sz (by omega), _, _, rfl, rfl, sz (by rw [app_len]; omega), ?_⟩
    refine ⟨_, rfl, a, _, 2, _, rfl, rfl, SqT.of h1, atI_nat (j := 2) rfl, ve, e, 4, rfl, hA, hE, by omega, by omega, fun H1 s1 => ?_⟩
    refine ⟨_, _, rfl, rfl, sz (by rw [app_len, app_len]; omega), szn 1, fun p hp => q _ p (s1.trans (same_upd hp)) (s1.free hp) ?_⟩
    rw [upd_same, line_set]
    simp [Rw.lns, lnV]
  | say e =>
    obtain ⟨a, ve, rfl, h1, hA⟩ := at_say hv
    unfold RwOk at hok
    have t1 := text_len4 hok
    refine ⟨_, rfl, a, _, 0, _, rfl, rfl, SqT.of h1, atI_nat (j := 0) rfl, rfl, _, rfl, ifF (by decide +kernel) ?_⟩
    refine ⟨_, rfl, a, _, 0, _, rfl, rfl, SqT.of h1, atI_nat (j := 0) rfl, rfl, _, rfl, ifT (decide_eq_true rfl) ?_⟩
    refine ⟨_, rfl, a, _, 1, _, rfl, rfl, SqT.of h1, atI_nat (j := 1) rfl, ve, e, 4, rfl, hA, hok, by omega, by omega, fun H1 s1 => ?_⟩
    refine ⟨_, _, rfl, rfl, sz (by omega), szn 1, fun p hp => q _ p (s1.trans (same_upd hp)) (s1.free hp) ?_⟩
    rw [upd_same, line_say]
    simp [Rw.lns, lnV]
  | call x d as m =>
    obtain ⟨a, b, us, rfl, h1, h2, hA⟩ := at_call hv
    unfold RwOk at hok
    obtain ⟨hx, hdd, h4, hE, hm⟩ := hok
    refine ⟨_, rfl, a, _, 0, _, rfl, rfl, SqT.of h1, atI_nat (j := 0) rfl, rfl, _, rfl, ifF (by decide +kernel) ?_⟩
    refine ⟨_, rfl, a, _, 0, _, rfl, rfl, SqT.of h1, atI_nat (j := 0) rfl, rfl, _, rfl, ifF (by decide +kernel) ?_⟩
    refine ⟨_, rfl, a, _, 0, _, rfl, rfl, SqT.of h1, atI_nat (j := 0) rfl, rfl, _, rfl, ifT (decide_eq_true rfl) ?_⟩
    refine ⟨_, rfl, a, _, 1, _, rfl, rfl, SqT.of h1, atI_nat (j := 1) rfl, _, rfl, a, _, 2, _, rfl, rfl, SqT.of h1, atI_nat (j := 2) rfl, _, rfl, a, _, 4, _, rfl, rfl, SqT.of h1, atI_nat (j := 4) rfl, _, rfl, small_log (by omega), szn 4, fun p1 n1 => ?_⟩
    have s1 := same_upd (o := .lst [V.str "call", V.str x, V.str d, V.str (numS m)]) n1
    have e1 : (upd H p1 (.lst [V.str "call", V.str x, V.str d, V.str (numS m)])) p1 = some (.lst [V.str "call", V.str x, V.str d, V.str (numS m)]) := upd_same
    refine ⟨_, rfl, a, _, 3, _, rfl, rfl, SqT.of (s1 _ _ h1), atI_nat (j := 3) rfl, b, rfl, ⟨us, SqT.of (s1 _ _ h2)⟩, fun L hL => ?_⟩
    have hA1 := hA.mono s1.keep
    have lus : us.length = as.length := by rw [hA.len, List.length_map]
    refine lc_it (walk_tup (xs := us)) (fun i H' => Same (upd H p1 (.lst [V.str "call", V.str x, V.str d, V.str (numS m)])) H' ∧ H' L = some (.lst ((as.take i).map fun e => V.str e.text))) ⟨same_upd hL, upd_same⟩ (fun i H' _ p => SqT.of (p.1 _ _ (s1 _ _ h2))) (fun i y Ha Hb hi p hy => ?_) (fun H5 pc => ?_)
    · obtain ⟨rfl, hy⟩ := hy
      obtain ⟨dd, hdd, Ay⟩ := hA1.getV hy
      have hg : as[i]? = some (as[i]'(by omega)) := List.getElem?_eq_getElem (by omega)
      rw [List.getElem?_map, hg] at hdd
      obtain rfl : (as[i]'(by omega)).enc = dd := Option.some.inj hdd
      refine ⟨rfl, _, rfl, y, as[i]'(by omega), 4, rfl, Ay.mono p.1.keep, hE _ (List.getElem_mem (by omega)), by omega, by omega, fun H6 s6 => ?_⟩
      refine ⟨_, s6 _ _ p.2, ?_, (p.1.trans s6).mut hL, snoc_take (fun e => V.str (Ex.text e)) hg⟩
      rw [List.length_map, List.length_take]
      exact szl (by omega)
    · have pc2 := pc.2
      rw [lus, List.take_of_length_le (Nat.le_refl _)] at pc2
      refine ⟨p1, L, _, _, rfl, rfl, pc.1 _ _ e1, pc2, ?_, fun p2 n2 => ?_⟩
      · rw [List.length_map]
        exact sz (by simp only [List.length_cons, List.length_nil]; omega)
      have e2 : ([V.str "call", V.str x, V.str d, V.str (numS m)] ++ as.map fun e => V.str e.text) = (("call" : Str) :: x :: d :: numS m :: as.map Ex.text).map V.str := by simp
      rw [e2]
      refine ⟨⟨_, rfl⟩, _, rfl, " ", p2, ("call" : Str) :: x :: d :: numS m :: as.map Ex.text, rfl, rfl, .inl (SqL.of upd_same), args_room hE h4 x d m hx hdd hm, szn 1, fun p3 n3 => ?_⟩
      have s13 := (s1.trans pc.1).trans (same_upd (o := .lst ((("call" : Str) :: x :: d :: numS m :: as.map Ex.text).map V.str)) n2)
      refine q _ p3 (s13.trans (same_upd n3)) (s13.free n3) ?_
      rw [upd_same]
      simp [Rw.lns, lnV, Ln.line, Ln.words]
  | turn e rs =>
    obtain ⟨a, ve, b, us, rfl, h1, hA, h2, hU⟩ := at_turn hv
    cases kk with
    | zero =>
      unfold RwOk at hok
      exact hok.elim
    | succ kk =>
    unfold RwOk at hok
    have t1 := text_len4 hok.1
    simp only [Rw.dep, Rw.cnt] at hd hc
    have few := lnsRs_few rs
    refine ⟨_, rfl, a, _, 0, _, rfl, rfl, SqT.of h1, atI_nat (j := 0) rfl, rfl, _, rfl, ifF (by decide +kernel) ?_⟩
    refine ⟨_, rfl, a, _, 0, _, rfl, rfl, SqT.of h1, atI_nat (j := 0) rfl, rfl, _, rfl, ifF (by decide +kernel) ?_⟩
    refine ⟨_, rfl, a, _, 0, _, rfl, rfl, SqT.of h1, atI_nat (j := 0) rfl, rfl, _, rfl, ifF (by decide +kernel) ?_⟩
    -- found = [row[0] + " " + _law_written(row[1])] + _law_texts(row[2])
    refine ⟨_, rfl, a, _, 0, _, rfl, rfl, SqT.of h1, atI_nat (j := 0) rfl, _, _, rfl, rfl, sz (by omega), ?_⟩
    refine ⟨_, rfl, a, _, 1, _, rfl, rfl, SqT.of h1, atI_nat (j := 1) rfl, ve, e, 4, rfl, hA, hok.1, by omega, by omega, fun H1 s1 => ?_⟩
    refine ⟨_, _, rfl, rfl, sz (by rw [app_len]; omega), szn 1, fun p1 n1 => ?_⟩
    have s2 := same_upd (o := .lst [V.str ((("turn" : Str) ++ (" " : Str)) ++ e.text)]) n1
    have s12 := s1.trans s2
    refine ⟨_, rfl, a, _, 2, _, rfl, rfl, SqT.of (s12 _ _ h1), atI_nat (j := 2) rfl, b, us, rs, kk, rfl, s12 _ _ h2, hU.mono s12.keep, hok.2, by omega, by omega, fun H2 p2 s3 n2 e2 => ?_⟩
    refine ⟨p1, p2, _, _, rfl, rfl, s3 _ _ upd_same, e2, by rw [lnV_len]; exact sz (by simp only [List.length_singleton]; omega), fun p3 n3 => ?_⟩
    have s4 := (s12.trans s3).trans (same_upd (o := .lst ([V.str ((("turn" : Str) ++ (" " : Str)) ++ e.text)] ++ lnV (lnsRs rs))) n3)
    refine ⟨_, rfl, a, _, 0, _, rfl, rfl, SqT.of (s4 _ _ h1), atI_nat (j := 0) rfl, rfl, _, rfl, ifF (by decide +kernel) ?_⟩
    refine ⟨_, rfl, szn 1, fun p4 n4 => ?_⟩
    refine ⟨p3, p4, _, _, rfl, rfl, same_upd n4 _ _ upd_same, upd_same, by rw [List.length_append, lnV_len]; exact sz (by simp only [List.length_singleton]; omega), fun p5 n5 => ?_⟩
    have sa := s4.trans (same_upd (o := .lst [V.str "end"]) n4)
    refine q _ p5 (sa.trans (same_upd n5)) (sa.free n5) ?_
    rw [upd_same, line_turn]
    simp [Rw.lns, lnV, line_fin]
  | when e rs os =>
    obtain ⟨a, ve, b, c, us, ws, rfl, h1, hA, h2, hU, h3, hW⟩ := at_when hv
    cases kk with
    | zero =>
      unfold RwOk at hok
      exact hok.elim
    | succ kk =>
    unfold RwOk at hok
    have t1 := text_len4 hok.1
    simp only [Rw.dep, Rw.cnt] at hd hc
    have few := lnsRs_few rs
    have few2 := lnsRs_few os
    refine ⟨_, rfl, a, _, 0, _, rfl, rfl, SqT.of h1, atI_nat (j := 0) rfl, rfl, _, rfl, ifF (by decide +kernel) ?_⟩
    refine ⟨_, rfl, a, _, 0, _, rfl, rfl, SqT.of h1, atI_nat (j := 0) rfl, rfl, _, rfl, ifF (by decide +kernel) ?_⟩
    refine ⟨_, rfl, a, _, 0, _, rfl, rfl, SqT.of h1, atI_nat (j := 0) rfl, rfl, _, rfl, ifF (by decide +kernel) ?_⟩
    refine ⟨_, rfl, a, _, 0, _, rfl, rfl, SqT.of h1, atI_nat (j := 0) rfl, _, _, rfl, rfl, sz (by omega), ?_⟩
    refine ⟨_, rfl, a, _, 1, _, rfl, rfl, SqT.of h1, atI_nat (j := 1) rfl, ve, e, 4, rfl, hA, hok.1, by omega, by omega, fun H1 s1 => ?_⟩
    refine ⟨_, _, rfl, rfl, sz (by rw [app_len]; omega), szn 1, fun p1 n1 => ?_⟩
    have s2 := same_upd (o := .lst [V.str ((("when" : Str) ++ (" " : Str)) ++ e.text)]) n1
    have s12 := s1.trans s2
    refine ⟨_, rfl, a, _, 2, _, rfl, rfl, SqT.of (s12 _ _ h1), atI_nat (j := 2) rfl, b, us, rs, kk, rfl, s12 _ _ h2, hU.mono s12.keep, hok.2.1, by omega, by omega, fun H2 p2 s3 n2 e2 => ?_⟩
    refine ⟨p1, p2, _, _, rfl, rfl, s3 _ _ upd_same, e2, by rw [lnV_len]; exact sz (by simp only [List.length_singleton]; omega), fun p3 n3 => ?_⟩
    have s4 := (s12.trans s3).trans (same_upd (o := .lst ([V.str ((("when" : Str) ++ (" " : Str)) ++ e.text)] ++ lnV (lnsRs rs))) n3)
    refine ⟨_, rfl, a, _, 0, _, rfl, rfl, SqT.of (s4 _ _ h1), atI_nat (j := 0) rfl, rfl, _, rfl, ifT (decide_eq_true rfl) ?_⟩
    -- found = found + ["else"] + _law_texts(row[3])
    refine ⟨_, rfl, szn 1, fun p4 n4 => ?_⟩
    refine ⟨p3, p4, _, _, rfl, rfl, same_upd n4 _ _ upd_same, upd_same, by rw [List.length_append, lnV_len]; exact sz (by simp only [List.length_singleton]; omega), fun p5 n5 => ?_⟩
    have s5 := (s4.trans (same_upd (o := .lst [V.str "else"]) n4)).trans (same_upd (o := .lst ([V.str ((("when" : Str) ++ (" " : Str)) ++ e.text)] ++ lnV (lnsRs rs) ++ [V.str "else"])) n5)
    refine ⟨_, rfl, a, _, 3, _, rfl, rfl, SqT.of (s5 _ _ h1), atI_nat (j := 3) rfl, c, ws, os, kk, rfl, s5 _ _ h3, hW.mono s5.keep, hok.2.2, by omega, by omega, fun H6 p6 s6 n6 e6 => ?_⟩
    refine ⟨p5, p6, _, _, rfl, rfl, s6 _ _ upd_same, e6, by rw [lnV_len, List.length_append, List.length_append, lnV_len]; exact sz (by simp only [List.length_singleton]; omega), fun p7 n7 => ?_⟩
    refine ⟨_, rfl, szn 1, fun p8 n8 => ?_⟩
    refine ⟨p7, p8, _, _, rfl, rfl, same_upd n8 _ _ upd_same, upd_same, by rw [List.length_append, List.length_append, List.length_append, lnV_len, lnV_len]; exact sz (by simp only [List.length_singleton]; omega), fun p9 n9 => ?_⟩
    have sa := ((s5.trans s6).trans (same_upd (o := .lst ([V.str ((("when" : Str) ++ (" " : Str)) ++ e.text)] ++ lnV (lnsRs rs) ++ [V.str "else"] ++ lnV (lnsRs os))) n7)).trans (same_upd (o := .lst [V.str "end"]) n8)
    refine q _ p9 (sa.trans (same_upd n9)) (sa.free n9) ?_
    rw [upd_same, line_when]
    simp [Rw.lns, lnV, line_fin, line_els]
theorem ok_ltexts (T : TxA mg) (DA : Def K mg "_law_texts" sLT) (DR : Def K mg "_law_row_texts" sLR) (CE : Call P w K mg base 5 "_law_written" (spET 5)) : ∀ n : Nat, Call P w K mg base (2 * n + 6) "_law_texts" (spAT n) ∧ Call P w K mg base (2 * n + 5) "_law_row_texts" (spRT n)
  | 0 => by
    have CR : Call P w K mg base 5 "_law_row_texts" (spRT 0) := (call_none (ps := ["row"]) DR (fun _ _ _ _ _ _ us hl => match us, hl with | [_], _ => rfl) fun vs H Q E h => by
      obtain ⟨v, r, k, _, _, _, h, _⟩ := h
      have := dep_pos r
      omega).mono (by omega)
    exact ⟨ok_LT DA CR, CR⟩
  | n + 1 => by
    obtain ⟨ih, _⟩ := ok_ltexts T DA DR CE n
    have CR := ok_LR T DR (by omega) CE ih
    exact ⟨ok_LT DA CR, CR⟩
/-! ### _law_book_texts -/
def spLB : Sp := fun vs H Q _ => ∃ (v : V) (B : Bk), vs = [v] ∧ At H v (encB B) ∧ BkOk B ∧ ∀ (H' : Hp) (p : Addr), Same H H' → H' p = some (.lst (lnV (lnsB B))) → Q (.ref p) H'
abbrev sLB : Stmt := top 55
theorem scLB : FnScope ["book", "found", "name", "params", "rows", "give"] ["book"] (defScope sLB) := ⟨rfl, rfl, rfl, by decide +kernel, rfl, by decide +kernel, by decide +kernel⟩
theorem ok_LB (T : TxA mg) (D : Def K mg "_law_book_texts" sLB) (CE : Call P w K mg base 5 "_law_written" (spET 5)) (CA : Call P w K mg base 12 "_law_texts" (spAT 3)) : Call P w K mg base 13 "_law_book_texts" spLB := by
  refine call_mk D (fun _ _ _ _ _ _ us hl => match us, hl with | [_], _ => rfl) scLB (fun vs H Q E h => ?_) fun f cdv A outer s H vs Q E hr h => ?_
  · obtain ⟨v, B, rfl, _⟩ := h
    rfl
  obtain ⟨v, B, rfl, hv, hB, q⟩ := h
  refine ⟨_, pss_cons (ps_set (i := 1) scLB.nd rfl (.inl rfl) (pe_lst pa_nil))
    (pss_cons (ps_for PassesOwn.never rfl (pi_tup (pv 0)) (pg_tup (by rfl) (pgs_cons (pg_name (i := 2) scLB.nd rfl (.inl rfl)) (pgs_cons (pg_name (i := 3) scLB.nd rfl (.inl rfl)) (pgs_cons (pg_name (i := 4) scLB.nd rfl (.inl rfl)) (pgs_cons (pg_name (i := 5) scLB.nd rfl (.inl rfl)) pgs_nil)))))
      (pss_cons (ps_expr (pe_bm PySem.F.plainAttrs_list PySem.F.slot_list_append PySem.F.type_list_append mt_append (pv 1) (pa_cons (pe_join pe_str (pe_op op_cat (pe_lst (pa_cons pe_str (pa_cons (pv 2) pa_nil))) (pe_callTy call_list_of (by rfl) T.list (by decide +kernel) (pa_cons (pv 3) pa_nil)))) pa_nil)))
      (pss_cons (ps_expr (pe_bm PySem.F.plainAttrs_list PySem.F.slot_list_extend PySem.F.type_list_extend mt_extend (pv 1) (pa_cons (pe_cl CA hr (pa_cons (pv 4) pa_nil)) pa_nil)))
      (pss_one (ps_expr (pe_bm PySem.F.plainAttrs_list PySem.F.slot_list_append PySem.F.type_list_append mt_append (pv 1) (pa_cons (pe_op op_add_str pe_str (pe_cl CE hr (pa_cons (pv 5) pa_nil))) pa_nil)))))))
    (pss_one (ps_ret (pv 1)))), ?_⟩
  obtain ⟨a, xs, rfl, ha, hx⟩ := At.inv (show At H v (.tuple (B.map Dd.enc)) from hv)
  have few := lnsB_few B hB.dds
  have h8 := hB.len
  have lg : ("give " : Str).length = 5 := by decide +kernel
  refine ⟨szn 0, fun L hL => ?_⟩
  have s0 := same_upd (o := .lst []) hL
  refine ⟨_, rfl, a, rfl, ⟨xs, SqT.of (s0 _ _ ha)⟩, for_tup (K := K) (a := a) (xs := xs) (fun i σ H' => ∃ y1 y2 y3 y4 : Option V, σ = [some (.ref a), some (.ref L), y1, y2, y3, y4] ∧ Same H H' ∧ H' L = some (.lst (lnV (lnsB (B.take i)))))
    ⟨none, none, none, none, rfl, s0, by rw [upd_same]; simp [lnsB, lnV]⟩ (fun i σ H' _ ⟨_, _, _, _, _, s1, _⟩ => SqT.of (s1 _ _ ha)) ?_ ?_⟩
  · rintro i x σ H1 hi ⟨y1, y2, y3, y4, rfl, s1, eL⟩
    obtain ⟨d, hd, Ad0⟩ := hx.dd hi
    have Ad := Ad0.mono s1.keep
    obtain ⟨p, b, c, us, ve, rfl, h1, h2, h3, h4, h5⟩ := at_dd Ad
    have hdB := List.mem_of_getElem? hd
    have hdd := hB.dds d hdB
    obtain ⟨k1, k2, k3, k4, k5, k6, k7⟩ := id hdd
    have t1 := lnsB_take B (i + 1)
    have t2 : d.lns.length = (lnsRs d.rows).length + 2 := by simp [Dd.lns]
    rw [lnsB_more hd, List.length_append] at t1
    have t3 := text_len4 k7
    refine ⟨p, _, rfl, SqT.of h1, rfl, _, _, rfl, _, _, rfl, _, _, rfl, _, _, rfl, rfl, ?_⟩
    -- found.append(" ".join(["deed", name] + list(params)))
    refine ⟨_, rfl, .inl ⟨rfl, _, SqL.of eL⟩, ⟨_, rfl⟩, _, rfl, szn 2, fun p1 n1 => ?_⟩
    have sA := same_upd (o := .lst [V.str "deed", V.str d.name]) n1
    refine ⟨_, rfl, b, _, rfl, .inr (SqT.of (sA _ _ h2)), fun p2 n2 => ?_⟩
    have sB := same_upd (o := .lst (d.params.map V.str)) n2
    refine ⟨p1, p2, _, _, rfl, rfl, sB _ _ upd_same, upd_same, by rw [List.length_map]; exact sz (by simp only [List.length_cons, List.length_nil]; omega), fun p3 n3 => ?_⟩
    have e3 : ([V.str "deed", V.str d.name] ++ d.params.map V.str) = (("deed" : Str) :: d.name :: d.params).map V.str := rfl
    rw [e3]
    have sC := same_upd (o := .lst ((("deed" : Str) :: d.name :: d.params).map V.str)) n3
    have s13 := (sA.trans sB).trans sC
    refine ⟨" ", p3, ("deed" : Str) :: d.name :: d.params, rfl, rfl, .inl (SqL.of upd_same), deed_words k1 k2 k3, L, _, _, rfl, rfl, s13 _ _ eL, by rw [lnV_len]; exact szl (by omega), ?_⟩
    have s2 := (s1.trans s13).mut hL (o := .lst (lnV (lnsB (B.take i)) ++ [V.str (Ln.deed d.name d.params).line]))
    have eL2 : (upd (upd (upd (upd H1 p1 (.lst [V.str "deed", V.str d.name])) p2 (.lst (d.params.map V.str))) p3 (.lst ((("deed" : Str) :: d.name :: d.params).map V.str))) L (.lst (lnV (lnsB (B.take i)) ++ [V.str (Ln.deed d.name d.params).line]))) L = some (.lst (lnV (lnsB (B.take i)) ++ [V.str (Ln.deed d.name d.params).line])) := upd_same
    have kp : Keep H1 (upd (upd (upd (upd H1 p1 (.lst [V.str "deed", V.str d.name])) p2 (.lst (d.params.map V.str))) p3 (.lst ((("deed" : Str) :: d.name :: d.params).map V.str))) L (.lst (lnV (lnsB (B.take i)) ++ [V.str (Ln.deed d.name d.params).line]))) := s13.keep.trans (Keep.wr (s13 _ _ eL) (by intro xs z; cases z))
    show (tSeq (tDrop (tBM K "list" rExtend (tVar 1) (tCons (tCall (spAT 3) [] E0 (tCons (tVar 4) tNil)) tNil))) (tDrop (tBM K "list" rAppend (tVar 1) (tCons (tOp (fun x y H Q => ∃ i j, x = .str i ∧ y = .str j ∧ i.length + j.length ≤ sizeLine ∧ Q (.str (i ++ j)) H) (tC (.str "give ")) (tCall (spET 5) [] E0 (tCons (tVar 5) tNil))) tNil)))) _ _
      (upd (upd (upd (upd H1 p1 (.lst [V.str "deed", V.str d.name])) p2 (.lst (d.params.map V.str))) p3 (.lst ((("deed" : Str) :: d.name :: d.params).map V.str))) L (.lst (lnV (lnsB (B.take i)) ++ [V.str (Ln.deed d.name d.params).line])))
    generalize upd (upd (upd (upd H1 p1 (.lst [V.str "deed", V.str d.name])) p2 (.lst (d.params.map V.str))) p3 (.lst ((("deed" : Str) :: d.name :: d.params).map V.str))) L (.lst (lnV (lnsB (B.take i)) ++ [V.str (Ln.deed d.name d.params).line])) = H2 at s2 eL2 kp
    -- found.extend(all_texts(rows))
    refine ⟨_, rfl, .inl ⟨rfl, _, SqL.of eL2⟩, _, rfl, c, us, d.rows, 2, rfl, kp _ _ h3, h4.mono kp, k5, depRs_ok _ 2 k5, by omega, fun H3 p5 s3 n5 e5 => ?_⟩
    refine ⟨L, p5, _, _, rfl, rfl, s3 _ _ eL2, e5, by rw [List.length_append, lnV_len, lnV_len]; exact sz (by simp only [List.length_singleton]; omega), ?_⟩
    have s4 := (s2.trans s3).mut hL (o := .lst (lnV (lnsB (B.take i)) ++ [V.str (Ln.deed d.name d.params).line] ++ lnV (lnsRs d.rows)))
    have k4' : Keep H2 (upd H3 L (.lst (lnV (lnsB (B.take i)) ++ [V.str (Ln.deed d.name d.params).line] ++ lnV (lnsRs d.rows)))) := s3.keep.trans (Keep.wr (s3 _ _ eL2) (by intro xs z; cases z))
    have eL4 : (upd H3 L (.lst (lnV (lnsB (B.take i)) ++ [V.str (Ln.deed d.name d.params).line] ++ lnV (lnsRs d.rows)))) L = some (.lst (lnV (lnsB (B.take i)) ++ [V.str (Ln.deed d.name d.params).line] ++ lnV (lnsRs d.rows))) := upd_same
    generalize upd H3 L (.lst (lnV (lnsB (B.take i)) ++ [V.str (Ln.deed d.name d.params).line] ++ lnV (lnsRs d.rows))) = H4 at s4 k4' eL4
    -- found.append("give " + expression_text(give))
    refine ⟨_, rfl, .inl ⟨rfl, _, SqL.of eL4⟩, _, rfl, ve, d.give, 4, rfl, h5.mono (kp.trans k4'), k7, by omega, by omega, fun H5 s5 => ?_⟩
    refine ⟨_, _, rfl, rfl, sz (by omega), L, _, _, rfl, rfl, s5 _ _ eL4, by rw [List.length_append, List.length_append, lnV_len, lnV_len]; exact szl (by simp only [List.length_singleton]; omega), ?_⟩
    refine ⟨_, _, _, _, rfl, (s4.trans s5).mut hL, ?_⟩
    rw [upd_same, line_give, lnsB_more hd, lnV_app]
    simp [Dd.lns, lnV]
  · rintro σ H1 ⟨y1, y2, y3, y4, rfl, s1, eL⟩
    have el : B.take xs.length = B := List.take_of_length_le (by rw [hx.len, List.length_map]; exact Nat.le_refl _)
    rw [el] at eL
    exact ⟨_, rfl, q H1 L s1 eL⟩
end
end Cf


set_option Elab.async false
set_option linter.all false
set_option autoImplicit false
set_option maxRecDepth 100000
set_option maxHeartbeats 2000000
/-! _law_same. -/
namespace Cf
open PySem PySem.Spec PyProof.Rows L2
/-- data of tuples, ints, texts: shallow, narrow -/
def Thin : Nat → PyData → Prop
  | _, .int _ => True
  | _, .str _ => True
  | n + 1, .tuple ds => ds.length ≤ 1000 ∧ ∀ d ∈ ds, Thin n d
  | _, _ => False
theorem thin_int (n : Nat) (i : Int) : Thin n (.int i) := by cases n <;> exact True.intro
theorem thin_str (n : Nat) (x : Str) : Thin n (.str x) := by cases n <;> exact True.intro
theorem thin_tup {n : Nat} {ds : List PyData} (hl : ds.length ≤ 1000) (h : ∀ d ∈ ds, Thin n d) : Thin (n + 1) (.tuple ds) := ⟨hl, h⟩
theorem Thin.mono : ∀ {n m : Nat} {d : PyData}, Thin n d → n ≤ m → Thin m d := by
  intro n
  induction n with
  | zero =>
    intro m d h k
    cases d with
    | int i => exact thin_int _ _
    | str x => exact thin_str _ _
    | _ => exact h.elim
  | succ n ih =>
    intro m d h k
    cases d with
    | int i => exact thin_int _ _
    | str x => exact thin_str _ _
    | tuple ds =>
      cases m with
      | zero => exact absurd k (by omega)
      | succ m => exact ⟨h.1, fun d hd => ih (h.2 d hd) (by omega)⟩
    | _ => exact h.elim
theorem thin_ex : ∀ {e : Ex} {d : Nat}, ExOk d e → Thin (d + 1) e.enc
  | .num n, d, h => by
    refine thin_tup (by simp) fun x hx => ?_
    simp only [List.mem_cons, List.not_mem_nil, or_false] at hx
    rcases hx with rfl | rfl
    · exact thin_str _ _
    · exact thin_int _ _
  | .nam x, d, h => by
    refine thin_tup (by simp) fun x hx => ?_
    simp only [List.mem_cons, List.not_mem_nil, or_false] at hx
    rcases hx with rfl | rfl
    · exact thin_str _ _
    · exact thin_str _ _
  | .bin o a b, 0, h => by
    unfold ExOk at h
    exact h.elim
  | .bin o a b, d + 1, h => by
    unfold ExOk at h
    refine thin_tup (by simp) fun x hx => ?_
    simp only [List.mem_cons, List.not_mem_nil, or_false] at hx
    rcases hx with rfl | rfl | rfl
    · exact thin_str _ _
    · exact thin_ex h.1
    · exact thin_ex h.2
theorem enc_cnt : ∀ rs : List Rw, (encRs rs).length ≤ cntRs rs
  | [] => by simp [encRs, cntRs]
  | r :: rs => by
    have := enc_cnt rs
    have h1 : 1 ≤ r.cnt := by cases r <;> simp only [Rw.cnt] <;> omega
    simp only [encRs, cntRs, List.length_cons]
    omega
mutual
theorem thin_rw : ∀ (r : Rw) (k : Nat), RwOk k r → r.cnt ≤ 1000 → Thin (7 + 2 * k) r.enc
  | .set x e, k, h, hc => by
    unfold RwOk at h
    unfold Rw.enc
    refine (thin_tup (n := 6) (by simp) fun y hy => ?_).mono (by omega)
    simp only [List.mem_cons, List.not_mem_nil, or_false] at hy
    rcases hy with rfl | rfl | rfl
    · exact thin_str _ _
    · exact thin_str _ _
    · exact (thin_ex h.2).mono (by omega)
  | .say e, k, h, hc => by
    unfold RwOk at h
    unfold Rw.enc
    refine (thin_tup (n := 6) (by simp) fun y hy => ?_).mono (by omega)
    simp only [List.mem_cons, List.not_mem_nil, or_false] at hy
    rcases hy with rfl | rfl
    · exact thin_str _ _
    · exact (thin_ex h).mono (by omega)
  | .call x d as m, k, h, hc => by
    unfold RwOk at h
    unfold Rw.enc
    refine (thin_tup (n := 6) (by simp) fun y hy => ?_).mono (by omega)
    simp only [List.mem_cons, List.not_mem_nil, or_false] at hy
    rcases hy with rfl | rfl | rfl | rfl | rfl
    · exact thin_str _ _
    · exact thin_str _ _
    · exact thin_str _ _
    · refine thin_tup (n := 5) (by have := h.2.2.1; simp; omega) fun z hz => ?_
      obtain ⟨e, he, rfl⟩ := List.mem_map.mp hz
      exact thin_ex (h.2.2.2.1 e he)
    · exact thin_int _ _
  | .when e rs os, 0, h, hc => by
    unfold RwOk at h
    exact h.elim
  | .when e rs os, k + 1, h, hc => by
    unfold RwOk at h
    unfold Rw.enc
    simp only [Rw.cnt] at hc
    have l1 := enc_cnt rs
    have l2 := enc_cnt os
    refine (thin_tup (n := 7 + 2 * k + 1) (by simp) fun y hy => ?_).mono (by omega)
    simp only [List.mem_cons, List.not_mem_nil, or_false] at hy
    rcases hy with rfl | rfl | rfl | rfl
    · exact thin_str _ _
    · exact (thin_ex h.1).mono (by omega)
    · exact thin_tup (by omega) (thin_rws rs k h.2.1 (by omega))
    · exact thin_tup (by omega) (thin_rws os k h.2.2 (by omega))
  | .turn e rs, 0, h, hc => by
    unfold RwOk at h
    exact h.elim
  | .turn e rs, k + 1, h, hc => by
    unfold RwOk at h
    unfold Rw.enc
    simp only [Rw.cnt] at hc
    have l1 := enc_cnt rs
    refine (thin_tup (n := 7 + 2 * k + 1) (by simp) fun y hy => ?_).mono (by omega)
    simp only [List.mem_cons, List.not_mem_nil, or_false] at hy
    rcases hy with rfl | rfl | rfl
    · exact thin_str _ _
    · exact (thin_ex h.1).mono (by omega)
    · exact thin_tup (by omega) (thin_rws rs k h.2 (by omega))
theorem thin_rws : ∀ (rs : List Rw) (k : Nat), RwsOk k rs → cntRs rs ≤ 1000 → ∀ d ∈ encRs rs, Thin (7 + 2 * k) d
  | [], k, h, hc, d, hd => by
    unfold encRs at hd
    cases hd
  | r :: rs, k, h, hc, d, hd => by
    unfold RwsOk at h
    unfold encRs at hd
    simp only [cntRs] at hc
    rcases List.mem_cons.mp hd with rfl | hd
    · exact thin_rw r k h.1 (by omega)
    · exact thin_rws rs k h.2 (by omega) d hd
end
theorem thin_dd {d : Dd} (h : DdOk d) : Thin 13 d.enc := by
  obtain ⟨h1, h2, h3, h4, h5, h6, h7⟩ := h
  have l1 := enc_cnt d.rows
  refine thin_tup (n := 12) (by simp) fun y hy => ?_
  simp only [List.mem_cons, List.not_mem_nil, or_false] at hy
  rcases hy with rfl | rfl | rfl | rfl
  · exact thin_str _ _
  · refine (thin_tup (n := 0) (by simp; omega) fun z hz => ?_).mono (by omega)
    obtain ⟨p, hp, rfl⟩ := List.mem_map.mp hz
    exact thin_str _ _
  · exact thin_tup (by omega) (thin_rws _ 2 h5 (by omega))
  · exact (thin_ex h7).mono (by omega)
theorem thin_bk {B : Bk} (h : BkOk B) : Thin 14 (encB B) := by
  have := h.len
  refine thin_tup (n := 13) (by simp; omega) fun y hy => ?_
  obtain ⟨d, hd, rfl⟩ := List.mem_map.mp hy
  exact thin_dd (h.dds d hd)

section
variable {P : Program} {w : World} {K : PySem.W.Frag} {mg : Str → Option Value} {base : Heap}
theorem walk_zipT {K : PySem.W.Frag} {a b : Addr} {xs ys : List V} (hn : xs.length = ys.length) : Walk (RZ.ItzT K a b) xs.length (fun H => SqT K H a xs ∧ SqT K H b ys) (YPair (fun i => xs[i]?) (fun i => ys[i]?)) := by
  refine ⟨fun i _ hi q => ?_, fun _ q => ⟨xs, ys, q.1, q.2, .inl (Nat.le_refl _)⟩, fun i H v H' _ q y => ?_⟩
  · have h2 : i < ys.length := by omega
    exact ⟨xs, ys, xs[i], ys[i], q.1, q.2, by simp [hi], by simp [h2]⟩
  · obtain ⟨T, x, z, h1, h2, h3, h4, h5⟩ := y
    exact ⟨T, x, z, h1, h2, h3, h4 xs q.1, h5 ys q.2⟩
theorem pe_bty {X : Cx} {x : Str} (T : String) {pos : Pos} (hm : X.mg x = none) (hv : bootBuiltins x = some (.type T)) (hg : Gl X x := by rfl) (hn : x ≠ "__name__" := by decide) (hd : (x == ("__debug__" : Str)) = false := by decide) : PE X (.Name x pos) (tC (.ty T)) :=
  pe_bltn hg hm hv (show RelV (.ty T) (.type T) from rfl) hn hd
structure TxZ (mg : Str → Option Value) : Prop where
  zip : mg "zip" = none
  isi : mg "isinstance" = none
  bool : mg "bool" = none
def spSame (n : Nat) : Sp := fun vs H Q _ => ∃ (v u : V) (d : PyData) (k : Nat), vs = [v, u] ∧ At H v d ∧ At H u d ∧ Thin k d ∧ k < n ∧ ∀ H', Same H H' → Q (.bl true) H'
abbrev sSame : Stmt := top 56
theorem scSame : FnScope ["found", "due", "one", "other"] ["found", "due"] (defScope sSame) := ⟨rfl, rfl, rfl, by decide +kernel, rfl, by decide +kernel, by decide +kernel⟩
theorem ok_same (T : TxA mg) (Z : TxZ mg) (D : Def K mg "_law_same" sSame) : ∀ n : Nat, Call P w K mg base n "_law_same" (spSame n)
  | 0 => call_none (ps := ["found", "due"]) D (fun _ _ _ _ _ _ us hl => match us, hl with | [_, _], _ => rfl) fun vs H Q E h => by
      obtain ⟨v, u, d, k, _, _, _, _, hd, _⟩ := h
      omega
  | n + 1 => by
    have CS := ok_same T Z D n
    refine call_mk D (fun _ _ _ _ _ _ us hl => match us, hl with | [_, _], _ => rfl) scSame (fun vs H Q E h => ?_) fun f cdv A outer s H vs Q E hr h => ?_
    · obtain ⟨v, u, d, k, rfl, _⟩ := h
      rfl
    obtain ⟨v, u, d, k, rfl, hv, hu, hs, hk, q⟩ := h
    refine ⟨_, pss_cons (ps_if (pt_val (pe_callB call_isi (by rfl) Z.isi (by decide +kernel) (pa_cons (pv 1) (pa_cons (pe_bty "tuple" T.tuple (by decide +kernel)) pa_nil))))
        (pss_cons (ps_if (PW.pt (pw_or (pt_not (pt_val (pe_callB call_isi (by rfl) Z.isi (by decide +kernel) (pa_cons (pv 0) (pa_cons (pe_bty "tuple" T.tuple (by decide +kernel)) pa_nil)))))
            (pw_or1 (pt_cmpR op_ne (pe_callB call_len_seq (by rfl) T.len PySem.boot_len (pa_cons (pv 0) pa_nil)) (pe_callB call_len_seq (by rfl) T.len PySem.boot_len (pa_cons (pv 1) pa_nil)) (nomark _)))))
          (pss_one (ps_ret pe_bl)) pss_nil)
        (pss_one (ps_ret (pe_callB (cr_all rfl) (by rfl) T.all (by decide +kernel) (pa_cons
          (pe_lc (own := [("one", 2), ("other", 3)]) (g := gTup K 2 (gCons (gName 2) (gCons (gName 3) gNil))) (by rfl) scSame.nd (RZ.pi_zipA (by rfl) Z.zip (pa_cons (pv 0) (pa_cons (pv 1) pa_nil))) (blkOk_by (own := [("one", 2), ("other", 3)]) (N := ["found", "due", "one", "other"]) (sc := defScope sSame) (by decide +kernel)) (fun _ _ _ _ _ => pg_tup (by rfl) (pgs_cons (pg_name (i := 2) scSame.nd rfl (Or.inl rfl)) (pgs_cons (pg_name (i := 3) scSame.nd rfl (Or.inl rfl)) pgs_nil))) (fun _ _ _ _ _ => pts_nil)
            (fun _ _ _ _ _ => pe_cl CS hr (pa_cons (pv 2) (pa_cons (pv 3) pa_nil)))) pa_nil))))) pss_nil)
      (pss_cons (ps_if (pt_val (pe_callB call_isi (by rfl) Z.isi (by decide +kernel) (pa_cons (pv 1) (pa_cons (pe_bty "str" T.str (by decide +kernel)) pa_nil))))
        (pss_one (ps_ret (pe_and (pe_callB call_isi (by rfl) Z.isi (by decide +kernel) (pa_cons (pv 0) (pa_cons (pe_bty "str" T.str (by decide +kernel)) pa_nil))) (pe_one (pe_cmpR op_eq (pv 0) (pv 1) (nomark _)))))) pss_nil)
      (pss_one (ps_ret (pe_and (pe_callB call_isi (by rfl) Z.isi (by decide +kernel) (pa_cons (pv 0) (pa_cons (pe_bty "int" T.int (by decide +kernel)) pa_nil)))
        (pe_and (pe_not (pe_callB call_isi (by rfl) Z.isi (by decide +kernel) (pa_cons (pv 0) (pa_cons (pe_bty "bool" Z.bool (by decide +kernel)) pa_nil)))) (pe_one (pe_cmpR op_eq (pv 0) (pv 1) (nomark _)))))))), ?_⟩
    cases hv with
    | int i =>
      cases hu
      refine ⟨_, rfl, _, _, _, _, false, rfl, ClsV.ty _, TyX.base (.int i), kit_ty (by decide +kernel), ?_⟩
      refine ⟨_, rfl, ifF rfl ?_⟩
      refine ⟨_, rfl, _, _, _, _, false, rfl, ClsV.ty _, TyX.base (.int i), kit_ty (by decide +kernel), ?_⟩
      refine ⟨_, rfl, ifF rfl ?_⟩
      refine ⟨_, rfl, _, _, _, _, true, rfl, ClsV.ty _, TyX.base (.int i), kit_ty (by decide +kernel), ?_⟩
      refine ⟨_, rfl, ifT rfl ?_⟩
      refine ⟨_, rfl, _, _, _, _, false, rfl, ClsV.ty _, TyX.base (.int i), kit_ty (by decide +kernel), ?_⟩
      refine ⟨_, rfl, _, rfl, ifT rfl ?_⟩
      refine ⟨_, rfl, _, rfl, rfl, ?_⟩
      rw [decide_eq_true rfl]
      exact q _ fun _ _ h => h
    | str x =>
      cases hu
      refine ⟨_, rfl, _, _, _, _, false, rfl, ClsV.ty _, TyX.base (.str x), kit_ty (by decide +kernel), ?_⟩
      refine ⟨_, rfl, ifF rfl ?_⟩
      refine ⟨_, rfl, _, _, _, _, true, rfl, ClsV.ty _, TyX.base (.str x), kit_ty (by decide +kernel), ?_⟩
      refine ⟨_, rfl, ifT rfl ?_⟩
      refine ⟨_, rfl, _, _, _, _, true, rfl, ClsV.ty _, TyX.base (.str x), kit_ty (by decide +kernel), ?_⟩
      refine ⟨_, rfl, ifT rfl ?_⟩
      refine ⟨_, rfl, _, rfl, rfl, ?_⟩
      rw [decide_eq_true rfl]
      exact q _ fun _ _ h => h
    | @tup a xs ds h1 hx =>
      obtain ⟨b, ys, rfl, h2, hy⟩ := hu.inv
      cases k with
      | zero => exact hs.elim
      | succ k =>
      obtain ⟨hl, hd⟩ := (show ds.length ≤ 1000 ∧ ∀ d ∈ ds, Thin k d from hs)
      have e1 := hx.len
      have e2 := hy.len
      refine ⟨_, rfl, _, _, _, _, true, rfl, ClsV.ty _, TyX.base (.tup h2), kit_ty (by decide +kernel), ?_⟩
      refine ⟨_, rfl, ifT rfl ?_⟩
      refine ⟨_, rfl, _, _, _, _, true, rfl, ClsV.ty _, TyX.base (.tup h1), kit_ty (by decide +kernel), ?_⟩
      refine ⟨_, rfl, ifF rfl ?_⟩
      refine ⟨_, rfl, a, xs, rfl, .inr (SqT.of h1), ?_⟩
      refine ⟨_, rfl, b, ys, rfl, .inr (SqT.of h2), rfl, _, rfl, ifF (by rw [e1, e2, decide_eq_true rfl]; rfl) ?_⟩
      refine ⟨_, rfl, _, rfl, a, b, xs, ys, rfl, .inr ⟨SqT.of h1, SqT.of h2, fun L hL => ?_⟩⟩
      refine lc_it (walk_zipT (xs := xs) (ys := ys) (by rw [e1, e2])) (fun i H' => Same H H' ∧ H' L = some (.lst ((List.replicate i true).map V.bl))) ⟨same_upd hL, upd_same⟩ (fun i H' _ p => ⟨SqT.of (p.1 _ _ h1), SqT.of (p.1 _ _ h2)⟩) (fun i y Ha Hb hi p hy' => ?_) (fun H5 pc => ?_)
      · obtain ⟨t, x1, y1, rfl, hT, rfl, g1, g2⟩ := hy'
        have s1 := same_upd (o := .tup [x1, y1]) hT
        obtain ⟨dd, g3, A1⟩ := hx.getV g1
        obtain ⟨dd2, g4, A2⟩ := hy.getV g2
        obtain rfl : dd = dd2 := Option.some.inj (g3.symm.trans g4)
        have kp : Keep H (upd Ha t (.tup [x1, y1])) := p.1.keep.trans s1.keep
        refine ⟨_, _, rfl, SqT.of upd_same, rfl, _, _, rfl, _, _, rfl, rfl, rfl, ?_⟩
        refine ⟨_, rfl, _, rfl, x1, y1, dd, k, rfl, A1.mono kp, A2.mono kp, hd _ (List.mem_of_getElem? g3), by omega, fun H6 s6 => ?_⟩
        refine ⟨_, s6 _ _ (s1 _ _ p.2), ?_, ((p.1.trans s1).trans s6).mut hL, ?_⟩
        · rw [List.length_map, List.length_replicate]
          exact szl (by omega)
        · rw [upd_same, List.replicate_succ', List.map_append]
          rfl
      · refine ⟨L, _, rfl, SqL.of pc.2, ?_⟩
        have ea : (List.replicate xs.length true).all id = true := by
          rw [List.all_eq_true]
          intro b hb
          exact List.eq_of_mem_replicate hb
        rw [ea]
        exact q _ pc.1
end
end Cf


set_option Elab.async false
set_option linter.all false
set_option autoImplicit false
set_option maxRecDepth 100000
set_option maxHeartbeats 2000000
/-! The draws: _law_cells, _law_pool, _law_take, _law_value. -/
namespace Cf
open PySem PySem.Spec PyProof.Rows L2
/-- the pool of draws -/
def PoolAt (H : Hp) (p : Addr) : Prop := ∃ a b : Int, H p = some (.lst [.int a, .int b]) ∧ 0 ≤ a ∧ 0 ≤ b ∧ b < 2147483647
/-- all stays but the pool, which is one still -/
structure Pg (p : Addr) (H H' : Hp) : Prop where
  ahead : PoolAt H p
  fr : Fr [p] H H'
  pool : PoolAt H' p
theorem PoolAt.ne {H : Hp} {p q : Addr} {o : HO} (h : PoolAt H p) (e : H q = some o) (hn : ∀ a b, o ≠ .lst [.int a, .int b]) : q ≠ p := by
  obtain ⟨a, b, h1, _⟩ := h
  exact fun z => hn a b (by rw [z, h1] at e; exact (Option.some.inj e).symm)
theorem PoolAt.same {H H' : Hp} {p : Addr} (h : PoolAt H p) (s : Same H H') : PoolAt H' p := by
  obtain ⟨a, b, h1, h2⟩ := h
  exact ⟨a, b, s _ _ h1, h2⟩
theorem PoolAt.some {H : Hp} {p : Addr} (h : PoolAt H p) : H p ≠ none := by
  obtain ⟨a, b, h1, _⟩ := h
  rw [h1]
  exact fun z => nomatch z
theorem PoolAt.refl {H : Hp} {p : Addr} (h : PoolAt H p) : Pg p H H := ⟨h, Fr.refl _ _, h⟩
theorem Pg.trans {p : Addr} {H H1 H2 : Hp} (a : Pg p H H1) (b : Pg p H1 H2) : Pg p H H2 := ⟨a.ahead, a.fr.trans b.fr, b.pool⟩
theorem Pg.same {p : Addr} {H H1 H2 : Hp} (a : Pg p H H1) (s : Same H1 H2) : Pg p H H2 := ⟨a.ahead, a.fr.trans s.fr, a.pool.same s⟩
theorem PoolAt.pg {p : Addr} {H H' : Hp} (h : PoolAt H p) (s : Same H H') : Pg p H H' := h.refl.same s
theorem Pg.at {p q : Addr} {H H' : Hp} {o : HO} (a : Pg p H H') (e : H q = some o) (hn : ∀ a b, o ≠ .lst [.int a, .int b]) : H' q = some o :=
  a.fr _ _ e fun z => a.ahead.ne e hn (by simpa using z)
theorem Pg.keep {p : Addr} {H H' : Hp} (a : Pg p H H') : Keep H H' := fun b xs e => a.at e fun _ _ z => nomatch z
theorem Pg.free {p q : Addr} {H H' : Hp} (a : Pg p H H') (h : H' q = none) : H q = none :=
  a.fr.free (fun b hb _ => by
    have e : b = p := by simpa using hb
    rw [e]
    exact a.pool.some) h
theorem strs_ne (ys : List Str) : ∀ a b : Int, HO.lst (ys.map V.str) ≠ .lst [.int a, .int b] := fun a b z => by
  injection z with z1
  cases ys with
  | nil => cases z1
  | cons y ys => cases z1
theorem Pg.strs {p q : Addr} {H H' : Hp} {ys : List Str} (a : Pg p H H') (e : H q = some (.lst (ys.map V.str))) : H' q = some (.lst (ys.map V.str)) := a.at e (strs_ne ys)
/-- what is new since H may change -/
theorem Pg.mut {p q : Addr} {H H' : Hp} {o : HO} (a : Pg p H H') (h : H q = none) : Pg p H (upd H' q o) := by
  refine ⟨a.ahead, a.fr.mut h, ?_⟩
  obtain ⟨x, y, h1, h2⟩ := a.pool
  refine ⟨x, y, ?_, h2⟩
  rw [upd_ne (fun z => a.ahead.some (by rw [z]; exact h))]
  exact h1
/-- the pool is new since H -/
theorem Pg.since {p : Addr} {H0 H H' : Hp} (s : Same H0 H) (a : Pg p H H') (h : H0 p = none) : Same H0 H' := fun b o e =>
  a.fr _ _ (s _ _ e) fun z => by
    have e1 : b = p := by simpa using z
    rw [e1, h] at e
    cases e
theorem mod_nn (a : Int) {b : Int} (h : 0 < b) : 0 ≤ a % b := Int.emod_nonneg _ (by omega)
theorem mod_lt (a : Int) {b : Int} (h : 0 < b) : a % b < b := Int.emod_lt_of_pos _ h
section
variable {P : Program} {w : World} {K : PySem.W.Frag} {mg : Str → Option Value} {base : Heap}
def spTake : Sp := fun vs H Q _ => ∃ (p : Addr) (m : Int), vs = [.ref p, .int m] ∧ PoolAt H p ∧ 0 < m ∧ m ≤ 1000000 ∧ ∀ (H' : Hp) (n : Nat), Pg p H H' → (n : Int) < m → Q (.int n) H'
abbrev sTake : Stmt := top 43
theorem scTake : FnScope ["pool", "many", "found"] ["pool", "many"] (defScope sTake) := ⟨rfl, rfl, rfl, by decide +kernel, rfl, by decide +kernel, by decide +kernel⟩
theorem ok_take (D : Def K mg "_law_take" sTake) : Call P w K mg base 1 "_law_take" spTake := by
  refine call_mk D (fun _ _ _ _ _ _ us hl => match us, hl with | [_, _], _ => rfl) scTake (fun vs H Q E h => ?_) fun f cdv A outer s H vs Q E hr h => ?_
  · obtain ⟨p, m, rfl, _⟩ := h
    rfl
  obtain ⟨p, m, rfl, hp, hm, hm2, q⟩ := h
  refine ⟨_, pss_cons (ps_if (pt_cmpR op_gt (pe_ix ix_list (pv 0) pe_int (fun _ _ => rfl)) pe_int (nomark _))
      (pss_cons (ps_set (i := 2) scTake.nd rfl (.inl rfl) (pe_op op_mod (pe_ix ix_list (pv 0) pe_int (fun _ _ => rfl)) (pv 1)))
      (pss_cons (ps_asg (pe_op op_fdiv (pe_ix ix_list (pv 0) pe_int (fun _ _ => rfl)) (pv 1)) (pg_sub (pv 0) pe_int set_list))
      (pss_one (ps_ret (pv 2))))) pss_nil)
    (pss_cons (ps_asg (pe_op op_mod (pe_op op_add (pe_op op_mul (pe_ix ix_list (pv 0) pe_int (fun _ _ => rfl)) pe_int) pe_int) pe_int) (pg_sub (pv 0) pe_int set_list))
    (pss_one (ps_ret (pe_op op_mod (pe_op op_fdiv (pe_op op_mod (pe_op op_mul (pe_op op_mod (pe_op op_mul (pe_ix ix_list (pv 0) pe_int (fun _ _ => rfl)) (pe_ix ix_list (pv 0) pe_int (fun _ _ => rfl))) pe_int) pe_int) pe_int) pe_int) (pv 1))))), ?_⟩
  obtain ⟨a, b, e, ha, hb, hb2⟩ := hp
  refine ⟨_, rfl, p, _, 0, _, rfl, rfl, SqL.of e, atI_nat (j := 0) rfl, _, _, rfl, rfl, _, rfl, ?_⟩
  have hP : PoolAt H p := ⟨a, b, e, ha, hb, hb2⟩
  by_cases h0 : 0 < a
  · refine ifT (decide_eq_true h0) ?_
    refine ⟨_, rfl, p, _, 0, _, rfl, rfl, SqL.of e, atI_nat (j := 0) rfl, _, rfl, _, _, rfl, rfl, hm, ?_⟩
    refine ⟨_, rfl, p, _, 0, _, rfl, rfl, SqL.of e, atI_nat (j := 0) rfl, _, rfl, _, _, rfl, rfl, ⟨hm, by omega⟩, ?_⟩
    refine ⟨_, rfl, p, _, 0, 0, rfl, rfl, e, rfl, ?_⟩
    refine ⟨_, rfl, ?_⟩
    have h1 := mod_nn a hm
    have h2 := mod_lt a hm
    have e1 : (((a % m).toNat : Nat) : Int) = a % m := Int.toNat_of_nonneg h1
    show Q (V.int (a % m)) (upd H p (.lst [V.int (a / m), V.int b]))
    rw [← e1]
    exact q _ _ ⟨hP, Fr.wr (by simp), ⟨a / m, b, upd_same, Int.ediv_nonneg (by omega) (by omega), hb, hb2⟩⟩ (by omega)
  · refine ifF (decide_eq_false h0) ?_
    refine ⟨_, rfl, p, _, 1, _, rfl, rfl, SqL.of e, atI_nat (j := 1) rfl, _, _, rfl, rfl, .inr ⟨by decide, by decide⟩, _, _, rfl, rfl, _, _, rfl, rfl, (by show (0 : Int) < 2147483647; decide), ?_⟩
    refine ⟨_, rfl, p, _, 1, 1, rfl, rfl, e, rfl, ?_⟩
    have h1 := mod_nn (b * 48271 + 12820163) (b := 2147483647) (by decide)
    have h2 := mod_lt (b * 48271 + 12820163) (b := 2147483647) (by decide)
    obtain ⟨c, hc⟩ : ∃ c, (b * 48271 + 12820163) % 2147483647 = c := ⟨_, rfl⟩
    have e2 : (upd H p (.lst [V.int a, V.int ((b * 48271 + 12820163) % 2147483647)])) p = some (.lst [.int a, .int c]) := by rw [upd_same, hc]
    rw [hc] at h1 h2
    refine ⟨_, rfl, p, _, 1, _, rfl, rfl, SqL.of e2, atI_nat (j := 1) rfl, _, rfl, p, _, 1, _, rfl, rfl, SqL.of e2, atI_nat (j := 1) rfl, _, _, rfl, rfl, .inl ⟨by omega, by omega⟩, ?_⟩
    refine ⟨_, _, rfl, rfl, (by show (0 : Int) < 2147483629; decide), _, _, rfl, rfl, .inr ⟨by decide, by decide⟩, _, _, rfl, rfl, (by show (0 : Int) < 2147483587; decide), ?_⟩
    refine ⟨_, _, rfl, rfl, ⟨by decide, by decide⟩, _, rfl, _, _, rfl, rfl, hm, ?_⟩
    show Q (V.int (c * c % 2147483629 * 69621 % 2147483587 / 8 % m)) (upd H p (.lst [V.int a, V.int ((b * 48271 + 12820163) % 2147483647)]))
    generalize c * c % 2147483629 * 69621 % 2147483587 / 8 = z
    have h3 := mod_nn z hm
    have h4 := mod_lt z hm
    have e1 : (((z % m).toNat : Nat) : Int) = z % m := Int.toNat_of_nonneg h3
    rw [← e1, hc]
    exact q _ _ ⟨hP, Fr.wr (by simp), ⟨a, c, upd_same, ha, h1, h2⟩⟩ (by omega)
def spVal : Sp := fun vs H Q _ => ∃ (p : Addr), vs = [.ref p] ∧ PoolAt H p ∧ ∀ (H' : Hp) (n : Nat), Pg p H H' → n ≤ 999999 → Q (.int n) H'
abbrev sVal : Stmt := top 45
theorem scVal : FnScope ["pool", "way"] ["pool"] (defScope sVal) := ⟨rfl, rfl, rfl, by decide +kernel, rfl, by decide +kernel, by decide +kernel⟩
theorem ok_val (D : Def K mg "_law_value" sVal) (CT : Call P w K mg base 1 "_law_take" spTake) : Call P w K mg base 2 "_law_value" spVal := by
  refine call_mk D (fun _ _ _ _ _ _ us hl => match us, hl with | [_], _ => rfl) scVal (fun vs H Q E h => ?_) fun f cdv A outer s H vs Q E hr h => ?_
  · obtain ⟨p, rfl, _⟩ := h
    rfl
  obtain ⟨p, rfl, hp, q⟩ := h
  refine ⟨_, pss_cons (ps_set (i := 1) scVal.nd rfl (.inl rfl) (pe_cl CT hr (pa_cons (pv 0) (pa_cons pe_int pa_nil))))
    (pss_cons (ps_if (pt_cmpR op_eq (pv 1) pe_int (nomark _)) (pss_one (ps_ret pe_int)) pss_nil)
    (pss_one (ps_ret (pe_cl CT hr (pa_cons (pv 0) (pa_cons (pe_ix ix_list (pe_lst (pa_cons pe_int (pa_cons pe_int (pa_cons pe_int pa_nil)))) (pe_op op_mod (pv 1) pe_int) (fun _ _ => rfl)) pa_nil)))))), ?_⟩
  refine ⟨_, rfl, p, 8, rfl, hp, by decide, by decide, fun H1 n g1 hn => ?_⟩
  refine ⟨_, rfl, rfl, _, rfl, ?_⟩
  by_cases h7 : V.int (n : Int) = V.int 7
  · exact ifT (decide_eq_true h7) (q _ 999999 g1 (by omega))
  refine ifF (decide_eq_false h7) ?_
  refine ⟨_, rfl, szn 3, fun l hl => ?_⟩
  have e3 : ((n : Int) % 3) = ((n % 3 : Nat) : Int) := rfl
  have h3 : n % 3 < 3 := Nat.mod_lt _ (by decide)
  refine ⟨_, rfl, _, _, rfl, rfl, (by show (0 : Int) < 3; decide), ?_⟩
  have hk : ∃ m : Int, atI ([V.int 4, V.int 12, V.int 1000000] : List V) ((n : Int) % 3) = some (.int m) ∧ 0 < m ∧ m ≤ 1000000 := by
    rw [e3]
    generalize n % 3 = k at h3
    match k, h3 with
    | 0, _ => exact ⟨4, rfl, by decide, by decide⟩
    | 1, _ => exact ⟨12, rfl, by decide, by decide⟩
    | 2, _ => exact ⟨1000000, rfl, by decide, by decide⟩
  obtain ⟨m, hk, m1, m2⟩ := hk
  refine ⟨l, _, _, _, rfl, rfl, SqL.of upd_same, hk, p, m, rfl, g1.pool.same (same_upd hl), m1, m2, fun H2 n2 g2 hn2 => ?_⟩
  exact q _ _ ((g1.same (same_upd hl)).trans g2) (by omega)
def spPool : Sp := fun vs H Q _ => ∃ (c : Addr) (xs : List Int) (k : Nat), vs = [.ref c, .int k] ∧ H c = some (.lst (xs.map V.int)) ∧ xs.length ≤ 1000 ∧ k ≤ 1000 ∧ ∀ (H' : Hp) (p : Addr), Same H H' → H p = none → PoolAt H' p → Q (.ref p) H'
abbrev sPool : Stmt := top 42
theorem scPool : FnScope ["cells", "k", "cell", "rest"] ["cells", "k"] (defScope sPool) := ⟨rfl, rfl, rfl, by decide +kernel, rfl, by decide +kernel, by decide +kernel⟩
theorem ok_pool (T : TxA mg) (habs : mg "abs" = none) (D : Def K mg "_law_pool" sPool) : Call P w K mg base 1 "_law_pool" spPool := by
  refine call_mk D (fun _ _ _ _ _ _ us hl => match us, hl with | [_, _], _ => rfl) scPool (fun vs H Q E h => ?_) fun f cdv A outer s H vs Q E hr h => ?_
  · obtain ⟨c, xs, k, rfl, _⟩ := h
    rfl
  obtain ⟨c, xs, k, rfl, hc, hx, hk, q⟩ := h
  refine ⟨_, pss_cons (ps_set (i := 2) scPool.nd rfl (.inl rfl) pe_int)
    (Evl.pss_cut (ps_if (pt_cmpR op_gt (pe_callB call_len_seq (by rfl) T.len PySem.boot_len (pa_cons (pv 0) pa_nil)) pe_int (nomark _))
      (pss_one (ps_set (i := 2) scPool.nd rfl (.inl rfl) (pe_op op_add (pe_ix ix_list (pv 0) (pe_op op_mod (pv 1) (pe_callB call_len_seq (by rfl) T.len PySem.boot_len (pa_cons (pv 0) pa_nil))) (fun _ _ => rfl)) (pe_op op_fdiv (pv 1) (pe_callB call_len_seq (by rfl) T.len PySem.boot_len (pa_cons (pv 0) pa_nil)))))) pss_nil)
    (pss_cons (ps_set (i := 3) scPool.nd rfl (.inl rfl) pe_int)
    (Evl.pss_cut (ps_if (PW.pt (pw_or (pt_cmpR op_lt (pv 2) pe_int (nomark _)) (pw_or1 (pt_cmpR op_ge (pv 2) (pe_op op_pow pe_int pe_int) (nomark _)))))
      (pss_one (ps_set (i := 3) scPool.nd rfl (.inl rfl) (pe_callB call_abs (by rfl) habs (by decide +kernel) (pa_cons (pv 2) pa_nil)))) pss_nil)
    (pss_one (ps_ret (pe_lst (pa_cons (pv 3) (pa_cons (pe_op op_mod (pe_op op_add (pe_op op_mul (pe_op op_mod (pv 2) pe_int) pe_int) (pe_op op_mul (pe_op op_mul pe_int (pe_op op_add (pv 1) pe_int)) (pe_op op_add (pv 1) pe_int))) pe_int) pa_nil)))))))), ?_⟩
  refine ⟨fun σ' H' => ∃ z : Int, σ' = [some (.ref c), some (.int k), some (.int z), none] ∧ H' = H, ?_, ?_⟩
  · refine ⟨_, rfl, c, _, rfl, .inl (SqL.of hc), _, _, rfl, rfl, _, rfl, ?_⟩
    rw [List.length_map]
    by_cases h0 : (0 : Int) < (xs.length : Nat)
    · refine ifT (decide_eq_true h0) ?_
      refine ⟨_, rfl, _, rfl, _, rfl, c, _, rfl, .inl (SqL.of hc), ?_⟩
      rw [List.length_map]
      refine ⟨_, _, rfl, rfl, h0, ?_⟩
      have e1 : ((k : Nat) : Int) % (xs.length : Nat) = ((k % xs.length : Nat) : Int) := rfl
      have hlt : k % xs.length < xs.length := Nat.mod_lt _ (by omega)
      have hA : atI (xs.map V.int) (((k : Nat) : Int) % (xs.length : Nat)) = some (V.int (xs[k % xs.length])) := by
        rw [e1]
        exact atI_nat (by rw [List.getElem?_map, List.getElem?_eq_getElem hlt]; rfl)
      refine ⟨c, _, _, _, rfl, rfl, SqL.of hc, hA, ?_⟩
      refine ⟨_, rfl, _, rfl, c, _, rfl, .inl (SqL.of hc), ?_⟩
      rw [List.length_map]
      refine ⟨_, _, rfl, rfl, ⟨h0, by omega⟩, ?_⟩
      exact ⟨_, _, rfl, rfl, _, rfl, rfl⟩
    · exact ifF (decide_eq_false h0) ⟨_, rfl, rfl⟩
  rintro σ' H' ⟨z, rfl, rfl⟩
  refine ⟨fun σ' H'' => ∃ y : Int, 0 ≤ y ∧ σ' = [some (.ref c), some (.int k), some (.int z), some (.int y)] ∧ H'' = H', ?_, ?_⟩
  · refine ⟨_, rfl, _, _, rfl, rfl, _, rfl, ?_⟩
    by_cases h0 : z < 0
    · refine ifT (decide_eq_true h0) ?_
      refine ⟨_, rfl, _, rfl, _, ?_, rfl, rfl⟩
      rw [if_pos h0]
      omega
    · refine ifF (decide_eq_false h0) ?_
      refine ⟨_, rfl, _, _, rfl, rfl, ⟨by decide, by decide, by decide⟩, _, _, rfl, rfl, _, rfl, ?_⟩
      by_cases h18 : (10 : Int) ^ Int.toNat 18 ≤ z
      · refine ifT (decide_eq_true h18) ⟨_, rfl, _, rfl, _, ?_, rfl, rfl⟩
        rw [if_neg h0]
        omega
      · exact ifF (decide_eq_false h18) ⟨0, by decide, rfl, rfl⟩
  rintro σ' H'' ⟨y, hy, rfl, rfl⟩
  refine ⟨_, rfl, _, rfl, _, _, rfl, rfl, (by show (0 : Int) < 2147483629; decide), _, _, rfl, rfl, .inr ⟨by decide, by decide⟩, ?_⟩
  refine ⟨_, rfl, _, _, rfl, rfl, _, _, rfl, rfl, .inl ⟨by decide, by decide⟩, _, rfl, _, _, rfl, rfl, _, _, rfl, rfl, .inr ⟨by omega, by omega⟩, _, _, rfl, rfl, _, _, rfl, rfl, (by show (0 : Int) < 2147483629; decide), szn 2, fun p hp => ?_⟩
  have h1 := mod_nn (z % 2147483629 * 69621 + 40009 * ((k : Int) + 1) * ((k : Int) + 3)) (b := 2147483629) (by decide)
  have h2 := mod_lt (z % 2147483629 * 69621 + 40009 * ((k : Int) + 1) * ((k : Int) + 3)) (b := 2147483629) (by decide)
  exact q _ p (same_upd hp) hp ⟨_, _, upd_same, hy, h1, by omega⟩
theorem SqL.sm {K : PySem.W.Frag} {H H' : Hp} {a : Addr} {xs : List V} (h : SqL K H a xs) (s : Same H H') : SqL K H' a xs := by
  rcases h with (h | ⟨o, h⟩) | h
  · exact .inl (.inl (s _ _ h))
  · exact .inl (.inr ⟨o, s _ _ h⟩)
  · exact .inr h
def spCells : Sp := fun vs H Q _ => ∃ (c : Addr) (xs : List Int), vs = [.ref c, .int 9] ∧ SqL K H c (xs.map V.int) ∧ xs.length ≤ 63 ∧ ∀ (H' : Hp) (l : Addr) (ys : List Int), Same H H' → H l = none → H' l = some (.lst (ys.map V.int)) → ys.length ≤ 63 → Q (.ref l) H'
abbrev sCells : Stmt := top 41
theorem scCells : FnScope ["script", "many", "cells", "k", "cell"] ["script", "many"] (defScope sCells) := ⟨rfl, rfl, rfl, by decide +kernel, rfl, by decide +kernel, by decide +kernel⟩
theorem cutV_ints (xs : List Int) (lo hi : Option Int) : ∃ ys : List Int, cutV (xs.map V.int) lo hi = ys.map V.int ∧ ys.length ≤ xs.length := by
  refine ⟨(xs.drop (HT.sIx xs.length 0 lo)).take (HT.sIx xs.length xs.length hi - HT.sIx xs.length 0 lo), ?_, ?_⟩
  · unfold cutV
    rw [List.length_map, List.map_take, List.map_drop]
  · rw [List.length_take, List.length_drop]
    omega
theorem cutV_take (xs : List V) (k : Nat) : (cutV xs none (some (k : Int))).length = min k xs.length := by
  unfold cutV
  rw [HT.sIx_nat, HT.sIx_none, List.length_take, List.length_drop]
  omega
theorem cutV_some (xs : List V) (a b : Nat) : (cutV xs (some (a : Int)) (some (b : Int))).length ≤ xs.length - a := by
  unfold cutV
  rw [HT.sIx_nat, HT.sIx_nat, List.length_take, List.length_drop]
  omega
theorem ok_cells (T : TxA mg) (henum : mg "enumerate" = none) (D : Def K mg "_law_cells" sCells) : Call P w K mg base 1 "_law_cells" (spCells (K := K)) := by
  refine call_mk D (fun _ _ _ _ _ _ us hl => match us, hl with | [_, _], _ => rfl) scCells (fun vs H Q E h => ?_) fun f cdv A outer s H vs Q E hr h => ?_
  · obtain ⟨c, xs, rfl, _⟩ := h
    rfl
  obtain ⟨c, xs, rfl, hc, hx, q⟩ := h
  refine ⟨_, pss_cons (ps_set (i := 2) scCells.nd rfl (.inl rfl) (pe_callTy call_list_of (by rfl) T.list (by decide +kernel) (pa_cons (pe_slice sl_list (pv 0) po_none (po_some (pv 1))) pa_nil)))
    (pss_cons (ps_for PassesOwn.never rfl (pi_enum (by rfl) henum (pa_cons (pe_slice sl_list (pv 0) (po_some (pv 1)) (po_some pe_int)) pa_nil)) (pg_tup (by rfl) (pgs_cons (pg_name (i := 3) scCells.nd rfl (.inl rfl)) (pgs_cons (pg_name (i := 4) scCells.nd rfl (.inl rfl)) pgs_nil)))
      (pss_one (ps_asg (pe_op op_add (pe_op op_mul (pe_ix ix_list (pv 2) (pe_op op_mod (pv 3) (pv 1)) (fun _ _ => rfl)) pe_int) (pv 4)) (pg_sub (pv 2) (pe_op op_mod (pv 3) (pv 1)) set_list))))
    (pss_one (ps_ret (pv 2)))), ?_⟩
  have L1 := cutV_take (xs.map V.int) 9
  have L2 := cutV_some (xs.map V.int) 9 63
  rw [List.length_map] at L1 L2
  obtain ⟨ys, ey, hy⟩ := cutV_ints xs none (some 9)
  obtain ⟨zs, ez, hz⟩ := cutV_ints xs (some 9) (some 63)
  have L1' : ys.length = min 9 xs.length := by
    rw [← L1, ← List.length_map (f := V.int), ← ey]
    rfl
  have L2' : zs.length ≤ xs.length - 9 := by
    rw [← List.length_map (f := V.int), ← ez]
    exact L2
  refine ⟨_, rfl, _, rfl, _, rfl, c, _, rfl, hc, fun l1 n1 => ?_⟩
  rw [ey]
  refine ⟨l1, _, rfl, .inl (SqL.of upd_same), fun l2 n2 => ?_⟩
  have s1 := (same_upd (o := .lst (ys.map V.int)) n1).trans (same_upd (o := .lst (ys.map V.int)) n2)
  have n2' : H l2 = none := (same_upd n1).free n2
  have e2 : (upd (upd H l1 (.lst (ys.map V.int))) l2 (.lst (ys.map V.int))) l2 = some (.lst (ys.map V.int)) := upd_same
  generalize upd (upd H l1 (.lst (ys.map V.int))) l2 (.lst (ys.map V.int)) = H1 at s1 e2
  refine ⟨_, rfl, _, rfl, _, rfl, _, rfl, c, _, rfl, SqL.sm hc s1, fun l3 n3 => ?_⟩
  rw [ez]
  refine ⟨l3, _, rfl, SqL.of upd_same, ?_⟩
  have s3 := same_upd (o := .lst (zs.map V.int)) n3
  have e3 : (upd H1 l3 (.lst (zs.map V.int))) l3 = some (.lst (zs.map V.int)) := upd_same
  have n3' : H1 l3 = none := n3
  have s13 := s1.trans s3
  have e23 := s3 _ _ e2
  have ne : l2 ≠ l3 := ne_of_none e2 n3
  generalize upd H1 l3 (.lst (zs.map V.int)) = H3 at s3 e3 s13 e23
  refine for_it (walk_enum (K := K) (a := l3) (xs := zs.map V.int)) (fun i σ H' => ∃ (u v : Option V) (cs : List Int), σ = [some (.ref c), some (.int 9), some (.ref l2), u, v] ∧ Same H H' ∧ H' l3 = some (.lst (zs.map V.int)) ∧ H' l2 = some (.lst (cs.map V.int)) ∧ cs.length = ys.length)
    ⟨none, none, ys, rfl, s13, e3, e23, rfl⟩ (fun i σ H' _ ⟨_, _, _, _, _, h, _⟩ => SqL.of h) ?_ ?_
  · rintro i x σ Ha Hb hi ⟨u, v, cs, rfl, sa, ea, eb, hl⟩ ⟨t, x1, y1, rfl, hT, rfl, g1, g2⟩
    obtain rfl : V.int (i : Nat) = x1 := Option.some.inj g1
    rw [List.length_map] at hi
    have g3 : (zs.map V.int)[i]? = some y1 := g2
    rw [List.getElem?_map, List.getElem?_eq_getElem hi] at g3
    obtain rfl : V.int zs[i] = y1 := Option.some.inj g3
    have st := same_upd (o := .tup [V.int (i : Nat), V.int zs[i]]) hT
    have et : (upd Ha t (.tup [V.int (i : Nat), V.int zs[i]])) t = some (.tup [V.int (i : Nat), V.int zs[i]]) := upd_same
    generalize upd Ha t (.tup [V.int (i : Nat), V.int zs[i]]) = Hc at st et
    refine ⟨t, _, rfl, SqT.of et, rfl, _, _, rfl, _, _, rfl, rfl, ?_⟩
    have e9 : ((i : Nat) : Int) % 9 = ((i % 9 : Nat) : Int) := rfl
    have h9 : i % 9 < cs.length := by
      have := Nat.mod_lt i (show 9 > 0 by decide)
      omega
    have hA : atI (cs.map V.int) (((i : Nat) : Int) % 9) = some (V.int (cs[i % 9])) := by
      rw [e9]
      exact atI_nat (by rw [List.getElem?_map, List.getElem?_eq_getElem h9]; rfl)
    have hB : ixN (cs.map V.int).length (((i : Nat) : Int) % 9) = some (i % 9) := by
      rw [e9]
      exact Evl.ixN_nat (by rw [List.length_map]; exact h9)
    have e2c := st _ _ eb
    refine ⟨_, rfl, _, rfl, _, rfl, _, _, rfl, rfl, (by show (0 : Int) < 9; decide), l2, _, _, _, rfl, rfl, SqL.of e2c, hA, _, _, rfl, rfl, .inr ⟨by decide, by decide⟩, _, rfl, _, _, rfl, rfl, ?_⟩
    refine ⟨_, rfl, _, rfl, _, rfl, _, _, rfl, rfl, (by show (0 : Int) < 9; decide), l2, _, _, _, rfl, rfl, e2c, hB, ?_⟩
    refine ⟨_, _, cs.set (i % 9) (cs[i % 9] * 31 + zs[i]), rfl, (sa.trans st).mut n2', ?_, ?_, by rw [List.length_set]; exact hl⟩
    · rw [upd_ne ne.symm]
      exact st _ _ ea
    · rw [upd_same, List.map_set]
  · rintro σ H' ⟨u, v, cs, rfl, sa, ea, eb, hl⟩
    exact ⟨_, rfl, q H' l2 cs sa n2' eb (by omega)⟩
end
end Cf


set_option Elab.async false
set_option linter.all false
set_option autoImplicit false
set_option maxRecDepth 100000
set_option maxHeartbeats 2000000
/-! Drawn from a menu, drawn expressions: _law_some, _law_expression. -/
namespace Cf
open PySem PySem.Spec PyProof.Rows L2
theorem perm_erase {α : Type} : ∀ {l : List α} {i : Nat} {x : α}, l[i]? = some x → (x :: l.eraseIdx i).Perm l
  | [], i, x, h => by simp at h
  | a :: l, 0, x, h => by
    have e : a = x := Option.some.inj (by simpa using h)
    subst e
    exact List.Perm.refl _
  | a :: l, i + 1, x, h => by
    have ih := perm_erase (l := l) (i := i) (x := x) (by simpa using h)
    exact (List.Perm.swap a x _).trans (ih.cons a)
theorem erase_map {α β : Type} (f : α → β) : ∀ (l : List α) (i : Nat), (l.map f).eraseIdx i = (l.eraseIdx i).map f
  | [], i => by cases i <;> rfl
  | a :: l, 0 => rfl
  | a :: l, i + 1 => congrArg (f a :: ·) (erase_map f l i)
theorem perm_step {α : Type} {ys rs xs : List α} {i : Nat} {x : α} (h : (ys ++ rs).Perm xs) (e : rs[i]? = some x) : ((ys ++ [x]) ++ rs.eraseIdx i).Perm xs := by
  rw [List.append_assoc]
  exact ((perm_erase e).append_left ys).trans h
section
variable {P : Program} {w : World} {K : PySem.W.Frag} {mg : Str → Option Value} {base : Heap}
/-- len's reading -/
abbrev rLn (K : PySem.W.Frag) : List V → Hp → VK → Prop := fun xs H Q => ∃ p ys, xs = [.ref p] ∧ (SqL K H p ys ∨ SqT K H p ys) ∧ Q (.int ys.length) H
/-- a draw out of the menu, each once -/
def spSome : Sp := fun vs H Q _ => ∃ (p m : Addr) (k : Nat) (xs : List Str), vs = [.ref p, .ref m, .int k] ∧ PoolAt H p ∧ H m = some (.lst (xs.map V.str)) ∧ k ≤ xs.length ∧ xs.length ≤ 1000 ∧
  ∀ (H' : Hp) (l : Addr) (ys zs : List Str), Pg p H H' → H l = none → H' l = some (.lst (ys.map V.str)) → ys.length = k → (ys ++ zs).Perm xs → Q (.ref l) H'
abbrev sSome : Stmt := top 44
theorem scSome : FnScope ["pool", "menu", "many", "rest", "k"] ["pool", "menu", "many"] (defScope sSome) := ⟨rfl, rfl, rfl, by decide +kernel, rfl, by decide +kernel, by decide +kernel⟩
theorem ok_some (T : TxA mg) (hrange : mg "range" = none) (D : Def K mg "_law_some" sSome) (CT : Call P w K mg base 1 "_law_take" spTake) : Call P w K mg base 2 "_law_some" spSome := by
  refine call_mk D (fun _ _ _ _ _ _ us hl => match us, hl with | [_, _, _], _ => rfl) scSome (fun vs H Q E h => ?_) fun f cdv A outer s H vs Q E hr h => ?_
  · obtain ⟨p, m, k, xs, rfl, _⟩ := h
    rfl
  obtain ⟨p, m, k, xs, rfl, hp, hm, hk, hx, q⟩ := h
  refine ⟨_, pss_cons (ps_set (i := 3) scSome.nd rfl (.inr rfl) (pe_callTy call_list_of (by rfl) T.list (by decide +kernel) (pa_cons (pv 1) pa_nil)))
    (pss_one (ps_ret (pe_lc (own := [("k", 4)]) (g := gName 4) (te := tBM K "list" rPopAt (tVar 3) (tCons (tCall spTake [] E0 (tCons (tVar 0) (tCons (tCB (rLn K) (tCons (tVar 3) tNil)) tNil))) tNil)) (by rfl) scSome.nd (pi_range1 (by rfl) hrange (pa_cons (pv 2) pa_nil)) (blkOk_by (own := [("k", 4)]) (N := ["pool", "menu", "many", "rest", "k"]) (sc := defScope sSome) (by decide +kernel)) (fun _ _ _ _ _ => pg_name (i := 4) scSome.nd rfl (Or.inl rfl)) (fun _ _ _ _ _ => pts_nil)
      (fun _ _ _ _ _ => by exact pe_bm PySem.F.plainAttrs_list PySem.F.slot_list_pop PySem.F.type_list_pop mt_popAt (pv 3) (pa_cons (pe_cl CT hr (pa_cons (pv 0) (pa_cons (pe_callB call_len_seq (by rfl) T.len PySem.boot_len (pa_cons (pv 3) pa_nil)) pa_nil))) pa_nil))))), ?_⟩
  refine ⟨_, rfl, m, _, rfl, .inl (SqL.of hm), fun r nr => ?_⟩
  have s1 := same_upd (o := .lst (xs.map V.str)) nr
  have e1 : (upd H r (.lst (xs.map V.str))) r = some (.lst (xs.map V.str)) := upd_same
  generalize upd H r (.lst (xs.map V.str)) = H1 at s1 e1
  refine ⟨_, rfl, _, rfl, by omega, by omega, fun L nL => ?_⟩
  have nL0 := s1.free nL
  have neL : r ≠ L := ne_of_none e1 nL
  have sL := same_upd (o := .lst []) nL
  refine lc_it (walk_range (lo := 0) (n := k)) (fun i H' => ∃ rs ys : List Str, Pg p H H' ∧ H' r = some (.lst (rs.map V.str)) ∧ H' L = some (.lst (ys.map V.str)) ∧ (ys ++ rs).Perm xs ∧ ys.length = i)
    ⟨xs, [], hp.pg (s1.trans sL), sL _ _ e1, upd_same, List.Perm.refl _, rfl⟩ (fun _ _ _ _ => True.intro) ?_ ?_
  · rintro i y Ha Hb hi ⟨rs, ys, g, er, eL, pm, hl⟩ ⟨rfl, rfl⟩
    have hlen := pm.length_eq
    rw [List.length_append] at hlen
    refine ⟨rfl, _, rfl, .inl ⟨rfl, _, SqL.of er⟩, ?_⟩
    refine ⟨_, rfl, _, rfl, r, _, rfl, .inl (SqL.of er), p, _, rfl, g.pool, by rw [List.length_map]; omega, by rw [List.length_map]; omega, fun H2 n g2 hn => ?_⟩
    rw [List.length_map] at hn
    have hn' : n < rs.length := by omega
    have er2 := g2.strs er
    have eL2 := g2.strs eL
    have hg : (rs.map V.str)[n]? = some (V.str rs[n]) := by
      rw [List.getElem?_map, List.getElem?_eq_getElem hn']
      rfl
    refine ⟨r, _, _, n, _, rfl, rfl, er2, by omega, by omega, (ixN_seq (Evl.ixN_nat (by rw [List.length_map]; exact hn'))).1, hg, ?_⟩
    refine ⟨ys.map V.str, ?_, ?_, rs.eraseIdx n, ys ++ [rs[n]], ?_, ?_, ?_, ?_, ?_⟩
    · rw [upd_ne neL.symm]
      exact eL2
    · rw [List.length_map]
      exact szl (by omega)
    · exact ((g.trans g2).mut nr).mut nL0
    · rw [upd_ne neL, upd_same, erase_map]
    · rw [upd_same, List.map_append]
      rfl
    · exact perm_step pm (List.getElem?_eq_getElem hn')
    · rw [List.length_append, hl]
      rfl
  · rintro H' ⟨rs, ys, g, er, eL, pm, hl⟩
    exact q H' L ys rs g nL0 eL hl pm
/-! ### expressions -/
def opWords : List V := [.str "plus", .str "less", .str "times", .str "under", .str "same", .str "over", .str "rest"]
theorem op_word : ∀ n, n < 7 → ∃ o : Op, opWords[n]? = some (.str o.word)
  | 0, _ => ⟨.plus, rfl⟩
  | 1, _ => ⟨.less, rfl⟩
  | 2, _ => ⟨.times, rfl⟩
  | 3, _ => ⟨.under, rfl⟩
  | 4, _ => ⟨.same, rfl⟩
  | 5, _ => ⟨.over, rfl⟩
  | 6, _ => ⟨.rest, rfl⟩
  | n + 7, h => absurd h (by omega)
/-- a list of names at hand -/
structure NamesAt (H : Hp) (a : Addr) (xs : List Str) : Prop where
  at_ : H a = some (.lst (xs.map V.str))
  ne : xs ≠ []
  few : xs.length ≤ 1000
  nm : ∀ x ∈ xs, Nm 4 x
theorem NamesAt.pg {H H' : Hp} {a p : Addr} {xs : List Str} (h : NamesAt H a xs) (g : Pg p H H') : NamesAt H' a xs := ⟨g.strs h.at_, h.ne, h.few, h.nm⟩
theorem NamesAt.same {H H' : Hp} {a : Addr} {xs : List Str} (h : NamesAt H a xs) (g : Same H H') : NamesAt H' a xs := ⟨g _ _ h.at_, h.ne, h.few, h.nm⟩
theorem NamesAt.pos {H : Hp} {a : Addr} {xs : List Str} (h : NamesAt H a xs) : 0 < xs.length := List.length_pos_iff.mpr h.ne
theorem NamesAt.get {H : Hp} {a : Addr} {xs : List Str} (h : NamesAt H a xs) {n : Nat} (hn : n < xs.length) : (xs.map V.str)[n]? = some (.str xs[n]) ∧ Nm 4 xs[n] := by
  refine ⟨?_, h.nm _ (List.getElem_mem hn)⟩
  rw [List.getElem?_map, List.getElem?_eq_getElem hn]
  rfl
def spEg (n : Nat) : Sp := fun vs H Q _ => ∃ (p a : Addr) (deep : Int) (xs : List Str) (d : Nat), vs = [.ref p, .ref a, .int deep] ∧ PoolAt H p ∧ NamesAt H a xs ∧ deep + d = 5 ∧ d < n ∧
  ∀ (H' : Hp) (v : V) (e : Ex), Pg p H H' → At H' v e.enc → ExOk d e → Q v H'
abbrev sEg : Stmt := top 46
theorem scEg : FnScope ["pool", "names", "deep", "way", "words", "word", "one"] ["pool", "names", "deep"] (defScope sEg) := ⟨rfl, rfl, rfl, by decide +kernel, rfl, by decide +kernel, by decide +kernel⟩
theorem ok_eg (T : TxA mg) (D : Def K mg "_law_expression" sEg) (CT : Call P w K mg base 1 "_law_take" spTake) (CV : Call P w K mg base 2 "_law_value" spVal) : ∀ n : Nat, Call P w K mg base (n + 2) "_law_expression" (spEg n)
  | 0 => (call_none (ps := ["pool", "names", "deep"]) D (fun _ _ _ _ _ _ us hl => match us, hl with | [_, _, _], _ => rfl) fun vs H Q E h => by
      obtain ⟨p, a, deep, xs, d, _, _, _, _, hd, _⟩ := h
      omega).mono (by omega)
  | n + 1 => by
    have CE := ok_eg T D CT CV n
    refine call_mk D (fun _ _ _ _ _ _ us hl => match us, hl with | [_, _, _], _ => rfl) scEg (fun vs H Q E h => ?_) fun f cdv A outer s H vs Q E hr h => ?_
    · obtain ⟨p, a, deep, xs, d, rfl, _⟩ := h
      rfl
    obtain ⟨p, a, deep, xs, d, rfl, hp, ha, hd, hdn, q⟩ := h
    refine ⟨_, pss_cons (ps_set (i := 3) scEg.nd rfl (.inl rfl) (pe_cl CT hr (pa_cons (pv 0) (pa_cons pe_int pa_nil))))
      (pss_cons (ps_if (PW.pt (pw_and (pt_cmpR op_gt (pv 3) pe_int (nomark _)) (pw_and1 (pt_cmpR op_lt (pv 2) pe_int (nomark _)))))
        (pss_cons (ps_set (i := 4) scEg.nd rfl (.inl rfl) (pe_lst (pa_cons pe_str (pa_cons pe_str (pa_cons pe_str (pa_cons pe_str (pa_cons pe_str (pa_cons pe_str (pa_cons pe_str pa_nil)))))))))
        (pss_cons (ps_set (i := 5) scEg.nd rfl (.inl rfl) (pe_ix ix_list (pv 4) (pe_cl CT hr (pa_cons (pv 0) (pa_cons (pe_op op_add pe_int (pe_op op_mul pe_int (pe_callTy call_int1 (by rfl) T.int (by decide +kernel) (pa_cons (pe_cmpR op_eq (pe_cl CT hr (pa_cons (pv 0) (pa_cons pe_int pa_nil))) pe_int (nomark _)) pa_nil)))) pa_nil))) (fun _ _ => rfl)))
        (pss_cons (ps_set (i := 6) scEg.nd rfl (.inl rfl) (pe_cl CE hr (pa_cons (pv 0) (pa_cons (pv 1) (pa_cons (pe_op op_add (pv 2) pe_int) pa_nil)))))
        (pss_one (ps_ret (pe_tup (pa_cons (pv 5) (pa_cons (pv 6) (pa_cons (pe_cl CE hr (pa_cons (pv 0) (pa_cons (pv 1) (pa_cons (pe_op op_add (pv 2) pe_int) pa_nil)))) pa_nil))))))))) pss_nil)
      (pss_cons (ps_if (pt_cmpR op_lt (pv 3) pe_int (nomark _)) (pss_one (ps_ret (pe_tup (pa_cons pe_str (pa_cons (pe_ix ix_list (pv 1) (pe_cl CT hr (pa_cons (pv 0) (pa_cons (pe_callB call_len_seq (by rfl) T.len PySem.boot_len (pa_cons (pv 1) pa_nil)) pa_nil))) (fun _ _ => rfl)) pa_nil))))) pss_nil)
      (pss_one (ps_ret (pe_tup (pa_cons pe_str (pa_cons (pe_cl CV hr (pa_cons (pv 0) pa_nil)) pa_nil))))))), ?_⟩
    refine ⟨_, rfl, p, 8, rfl, hp, by decide, by decide, fun H1 n1 g1 hn1 => ?_⟩
    have fin : (∀ (H' : Hp) (v : V) (e : Ex), Pg p H H' → At H' v e.enc → ExOk d e → Q v H') → tSeq (tIfS (tTest (tOp (rI0 fun i j => V.bl (decide (i < j))) (tVar 3) (tC (.int 3)))) (tRet (tTup (tCons (tC (.str "name")) (tCons (tOp (rIxL K) (tVar 1) (tCall spTake [] E0 (tCons (tVar 0) (tCons (tCB (fun xs H Q => ∃ p ys, xs = [.ref p] ∧ (SqL K H p ys ∨ SqT K H p ys) ∧ Q (.int ys.length) H) (tCons (tVar 1) tNil)) tNil)))) tNil)))) tNext) (tRet (tTup (tCons (tC (.str "number")) (tCons (tCall spVal [] E0 (tCons (tVar 0) tNil)) tNil)))) { nx := fun _ H' => Q .non H', rt := Q } [some (.ref p), some (.ref a), some (.int deep), some (.int n1), none, none, none] H1 := by
      intro q
      refine ⟨_, rfl, _, _, rfl, rfl, _, rfl, ?_⟩
      by_cases h3 : (n1 : Int) < 3
      · refine ifT (decide_eq_true h3) ?_
        have hpos := ha.pos
        have hfew := ha.few
        refine ⟨_, rfl, _, rfl, _, rfl, a, _, rfl, .inl (SqL.of (g1.strs ha.at_)), p, _, rfl, g1.pool, by rw [List.length_map]; omega, by rw [List.length_map]; omega, fun H2 k g2 hk => ?_⟩
        rw [List.length_map] at hk
        have hk' : k < xs.length := by omega
        obtain ⟨hg, hN⟩ := ha.get hk'
        refine ⟨a, _, _, _, rfl, rfl, SqL.of ((g1.trans g2).strs ha.at_), atI_nat hg, szn 2, fun t ht => ?_⟩
        refine q _ _ (.nam xs[k]) ((g1.trans g2).same (same_upd ht)) (at_new ht (.cons (.str _) (.cons (.str _) .nil))) ?_
        unfold ExOk
        exact hN
      · refine ifF (decide_eq_false h3) ?_
        refine ⟨_, rfl, p, rfl, g1.pool, fun H2 k g2 hk => ?_⟩
        refine ⟨szn 2, fun t ht => ?_⟩
        refine q _ _ (.num k) ((g1.trans g2).same (same_upd ht)) (at_new ht (.cons (.str _) (.cons (.int _) .nil))) ?_
        unfold ExOk
        exact hk
    refine ⟨_, rfl, _, _, rfl, rfl, _, rfl, ?_⟩
    by_cases h4 : (4 : Int) < n1
    · refine ifT (decide_eq_true h4) ⟨_, rfl, _, _, rfl, rfl, _, rfl, ?_⟩
      by_cases h5 : deep < 5
      · refine ifT (decide_eq_true h5) ?_
        obtain ⟨d, rfl⟩ : ∃ d', d = d' + 1 := ⟨d - 1, by omega⟩
        refine ⟨szn 7, fun l hl => ?_⟩
        have g2 := g1.same (same_upd (o := .lst opWords) hl)
        have el : (upd H1 l (.lst opWords)) l = some (.lst opWords) := upd_same
        refine ⟨_, rfl, _, rfl, _, rfl, p, 6, rfl, g2.pool, by decide, by decide, fun H3 n3 g3 hn3 => ?_⟩
        refine ⟨rfl, .inr ⟨_, rfl, ?_⟩⟩
        have hb : ∃ m : Int, (5 : Int) + 2 * (if decide (V.int (n3 : Int) = V.int 0) = true then 1 else 0) = m ∧ 0 < m ∧ m ≤ 7 := by
          by_cases h : V.int (n3 : Int) = V.int 0
          · exact ⟨7, by rw [decide_eq_true h]; rfl, by decide, by decide⟩
          · exact ⟨5, by rw [decide_eq_false h]; rfl, by decide, by decide⟩
        obtain ⟨m, hm, m1, m2⟩ := hb
        refine ⟨_, _, rfl, rfl, .inl ⟨by decide, by decide⟩, _, _, rfl, rfl, p, m, congrArg (fun z => [V.ref p, V.int z]) hm, g3.pool, m1, by omega, fun H4 n4 g4 hn4 => ?_⟩
        have g34 := g3.trans g4
        have el4 : H4 l = some (.lst opWords) := g34.at el (fun _ _ z => by injection z with z; cases z)
        obtain ⟨o, ho⟩ := op_word n4 (by omega)
        refine ⟨l, _, _, _, rfl, rfl, SqL.of el4, atI_nat ho, ?_⟩
        have g5 := g2.trans g34
        refine ⟨_, rfl, _, rfl, _, rfl, _, _, rfl, rfl, p, a, deep + 1, xs, d, rfl, g5.pool, ha.pg g5, by omega, by omega, fun H6 v1 e1 g6 A1 k1 => ?_⟩
        have g56 := g5.trans g6
        refine ⟨_, rfl, _, rfl, _, rfl, _, rfl, _, rfl, _, _, rfl, rfl, p, a, deep + 1, xs, d, rfl, g56.pool, ha.pg g56, by omega, by omega, fun H7 v2 e2 g7 A2 k2 => ?_⟩
        refine ⟨szn 3, fun t ht => ?_⟩
        refine q _ _ (.bin o e1 e2) ((g56.trans g7).same (same_upd ht)) (at_new ht (.cons (.str _) (.cons (A1.mono g7.keep) (.cons A2 .nil)))) ?_
        unfold ExOk
        exact ⟨k1, k2⟩
      · exact ifF (decide_eq_false h5) (fin q)
    · exact ifF (decide_eq_false h4) (fin q)
end
end Cf


set_option Elab.async false
set_option linter.all false
set_option autoImplicit false
set_option maxRecDepth 100000
set_option maxHeartbeats 2000000
/-! The state of the drawing: the dict, the heads, the marks. -/
namespace Cf
open PySem PySem.Spec PyProof.Rows L2
def stD (hd : Addr) (i r c f : Nat) : List (Key × V) := [(.inr "heads", .ref hd), (.inr "at", .int i), (.inr "rows", .int r), (.inr "calls", .int c), (.inr "first", .int f)]
theorem k_heads_at : ¬ (("heads" : Str) = "at") := by decide +kernel
theorem k_heads_rows : ¬ (("heads" : Str) = "rows") := by decide +kernel
theorem k_heads_calls : ¬ (("heads" : Str) = "calls") := by decide +kernel
theorem k_heads_first : ¬ (("heads" : Str) = "first") := by decide +kernel
theorem k_at_rows : ¬ (("at" : Str) = "rows") := by decide +kernel
theorem k_at_calls : ¬ (("at" : Str) = "calls") := by decide +kernel
theorem k_at_first : ¬ (("at" : Str) = "first") := by decide +kernel
theorem k_rows_calls : ¬ (("rows" : Str) = "calls") := by decide +kernel
theorem k_rows_first : ¬ (("rows" : Str) = "first") := by decide +kernel
theorem k_calls_first : ¬ (("calls" : Str) = "first") := by decide +kernel
section
variable {hd : Addr} {i r c f : Nat}
theorem vk_heads : valV (stD hd i r c f) (.inr "heads") = some (.ref hd) := by
  simp [valV, stD]
theorem vk_at : valV (stD hd i r c f) (.inr "at") = some (.int i) := by
  simp [valV, stD, k_heads_at, eq_false k_heads_at]
theorem vk_rows : valV (stD hd i r c f) (.inr "rows") = some (.int r) := by
  simp [valV, stD, k_heads_rows, k_at_rows]
theorem vk_calls : valV (stD hd i r c f) (.inr "calls") = some (.int c) := by
  simp [valV, stD, k_heads_calls, k_at_calls, k_rows_calls]
theorem vk_first : valV (stD hd i r c f) (.inr "first") = some (.int f) := by
  simp [valV, stD, k_heads_first, k_at_first, k_rows_first, k_calls_first]
theorem pk_at (n : Nat) : putK (stD hd i r c f) (.inr "at") (.int n) = stD hd n r c f := by
  simp [putK, stD, k_heads_at, Ne.symm k_at_rows, Ne.symm k_at_calls, Ne.symm k_at_first]
theorem pk_rows (n : Nat) : putK (stD hd i r c f) (.inr "rows") (.int n) = stD hd i n c f := by
  simp [putK, stD, k_heads_rows, k_at_rows, Ne.symm k_rows_calls, Ne.symm k_rows_first]
theorem pk_calls (n : Nat) : putK (stD hd i r c f) (.inr "calls") (.int n) = stD hd i r n f := by
  simp [putK, stD, k_heads_calls, k_at_calls, k_rows_calls, Ne.symm k_calls_first]
end
def StAt (H : Hp) (sp hd : Addr) (i r c f : Nat) : Prop := H sp = some (.dK (stD hd i r c f))
section
variable {H : Hp} {sp hd : Addr} {i r c f : Nat}
theorem StAt.heads (h : StAt H sp hd i r c f) : DGet H sp (.str "heads") (some (.ref hd)) := by
  have := DGet.k (k := Sum.inr "heads") h
  rwa [vk_heads] at this
theorem StAt.at_ (h : StAt H sp hd i r c f) : DGet H sp (.str "at") (some (.int i)) := by
  have := DGet.k (k := Sum.inr "at") h
  rwa [vk_at] at this
theorem StAt.rows (h : StAt H sp hd i r c f) : DGet H sp (.str "rows") (some (.int r)) := by
  have := DGet.k (k := Sum.inr "rows") h
  rwa [vk_rows] at this
theorem StAt.calls (h : StAt H sp hd i r c f) : DGet H sp (.str "calls") (some (.int c)) := by
  have := DGet.k (k := Sum.inr "calls") h
  rwa [vk_calls] at this
theorem StAt.first (h : StAt H sp hd i r c f) : DGet H sp (.str "first") (some (.int f)) := by
  have := DGet.k (k := Sum.inr "first") h
  rwa [vk_first] at this
theorem st_few : (stD hd i r c f).length < sizeLine := szl (n := 5) (by decide)
theorem StAt.putAt (h : StAt H sp hd i r c f) (n : Nat) : DPut H sp (.str "at") (.int n) (upd H sp (.dK (stD hd n r c f))) := by
  have := DPut.k (k := Sum.inr "at") (v := V.int n) h st_few
  rwa [pk_at] at this
theorem StAt.putRows (h : StAt H sp hd i r c f) (n : Nat) : DPut H sp (.str "rows") (.int n) (upd H sp (.dK (stD hd i n c f))) := by
  have := DPut.k (k := Sum.inr "rows") (v := V.int n) h st_few
  rwa [pk_rows] at this
theorem StAt.putCalls (h : StAt H sp hd i r c f) (n : Nat) : DPut H sp (.str "calls") (.int n) (upd H sp (.dK (stD hd i r n f))) := by
  have := DPut.k (k := Sum.inr "calls") (v := V.int n) h st_few
  rwa [pk_calls] at this
end
/-! ### the frame: all stays but the pool and the state -/
def IsDK (H : Hp) (a : Addr) : Prop := ∃ kvs : List (Key × V), H a = some (.dK kvs)
structure Pd (p sp : Addr) (H H' : Hp) : Prop where
  ahead : PoolAt H p
  dict : IsDK H sp
  fr : Fr [p, sp] H H'
  pool : PoolAt H' p
  st : IsDK H' sp
theorem StAt.dk {H : Hp} {sp hd : Addr} {i r c f : Nat} (h : StAt H sp hd i r c f) : IsDK H sp := ⟨_, h⟩
section
variable {p sp : Addr} {H H1 H2 H' : Hp}
theorem Pd.trans (a : Pd p sp H H1) (b : Pd p sp H1 H2) : Pd p sp H H2 := ⟨a.ahead, a.dict, a.fr.trans b.fr, b.pool, b.st⟩
theorem Pg.pd (a : Pg p H H') (d : IsDK H sp) : Pd p sp H H' := by
  obtain ⟨kvs, e⟩ := d
  exact ⟨a.ahead, ⟨kvs, e⟩, a.fr.mono fun b hb => by
    have e1 : b = p := by simpa using hb
    rw [e1]
    exact List.mem_cons_self .., a.pool, ⟨kvs, a.at e fun _ _ z => nomatch z⟩⟩
theorem Pd.same (a : Pd p sp H H1) (s : Same H1 H2) : Pd p sp H H2 := by
  obtain ⟨kvs, e⟩ := a.st
  exact ⟨a.ahead, a.dict, a.fr.trans s.fr, a.pool.same s, ⟨kvs, s _ _ e⟩⟩
theorem Pd.pg (a : Pd p sp H H1) (g : Pg p H1 H2) : Pd p sp H H2 := a.trans (g.pd a.st)
theorem Pd.at (a : Pd p sp H H') {q : Addr} {o : HO} (e : H q = some o) (hn : ∀ a b, o ≠ .lst [.int a, .int b]) (hd : ∀ kvs, o ≠ .dK kvs) : H' q = some o := by
  refine a.fr _ _ e fun z => ?_
  simp only [List.mem_cons, List.not_mem_nil, or_false] at z
  rcases z with z | z
  · exact a.ahead.ne e hn z
  · obtain ⟨kvs, e2⟩ := a.dict
    rw [z, e2] at e
    exact hd kvs (Option.some.inj e).symm
theorem Pd.strs (a : Pd p sp H H') {q : Addr} {ys : List Str} (e : H q = some (.lst (ys.map V.str))) : H' q = some (.lst (ys.map V.str)) := a.at e (strs_ne ys) fun _ z => nomatch z
theorem Pd.keep (a : Pd p sp H H') : Keep H H' := fun b xs e => a.at e (fun _ _ z => nomatch z) fun _ z => nomatch z
theorem Pd.free (a : Pd p sp H H') {q : Addr} (h : H' q = none) : H q = none :=
  a.fr.free (fun b hb _ => by
    simp only [List.mem_cons, List.not_mem_nil, or_false] at hb
    rcases hb with rfl | rfl
    · exact a.pool.some
    · obtain ⟨kvs, e⟩ := a.st
      rw [e]
      exact fun z => nomatch z) h
theorem Pd.mut (a : Pd p sp H H') {q : Addr} {o : HO} (h : H q = none) : Pd p sp H (upd H' q o) := by
  refine ⟨a.ahead, a.dict, a.fr.mut h, ?_, ?_⟩
  · obtain ⟨x, y, h1, h2⟩ := a.pool
    refine ⟨x, y, ?_, h2⟩
    rw [upd_ne (fun z => a.ahead.some (by rw [z]; exact h))]
    exact h1
  · obtain ⟨kvs, e⟩ := a.st
    obtain ⟨kvs0, e0⟩ := a.dict
    refine ⟨kvs, ?_⟩
    rw [upd_ne (fun z => by rw [z, h] at e0; cases e0)]
    exact e
/-- the state is written -/
theorem pd_put (hp : PoolAt H p) (d : IsDK H sp) (kvs : List (Key × V)) : Pd p sp H (upd H sp (.dK kvs)) := by
  obtain ⟨kvs0, e0⟩ := d
  refine ⟨hp, ⟨kvs0, e0⟩, Fr.wr (by simp), ?_, ⟨kvs, upd_same⟩⟩
  obtain ⟨x, y, h1, h2⟩ := hp
  refine ⟨x, y, ?_, h2⟩
  rw [upd_ne (ne_of h1 e0 (fun z => nomatch z))]
  exact h1
theorem NamesAt.pd {a : Addr} {xs : List Str} (h : NamesAt H a xs) (g : Pd p sp H H') : NamesAt H' a xs := ⟨g.strs h.at_, h.ne, h.few, h.nm⟩
/-- what is new since H stays under the frame -/
theorem Pd.own (a : Pd p sp H H1) {H0 : Hp} {q : Addr} {o : HO} (e : H q = some o) (hq : H0 q = none) (hp : H0 p ≠ none) (hs : H0 sp ≠ none) : H1 q = some o := by
  refine a.fr _ _ e fun z => ?_
  simp only [List.mem_cons, List.not_mem_nil, or_false] at z
  rcases z with z | z
  · exact hp (z ▸ hq)
  · exact hs (z ▸ hq)
theorem StAt.pg {hd : Addr} {i r c f : Nat} (h : StAt H sp hd i r c f) (g : Pg p H H') : StAt H' sp hd i r c f := g.at h fun _ _ z => nomatch z
theorem IsDK.some (h : IsDK H sp) : H sp ≠ none := by
  obtain ⟨kvs, e⟩ := h
  rw [e]
  exact fun z => nomatch z
end
/-! ### the heads -/
abbrev Hds := List (Str × List Str)
structure HdsAt (H : Hp) (hd : Addr) (hs : Hds) : Prop where
  ls : ∃ vs, H hd = some (.lst vs) ∧ vs.length = hs.length ∧ ∀ (i : Nat) (x : Str) (ps : List Str), hs[i]? = some (x, ps) → ∃ t pl, vs[i]? = some (.ref t) ∧ H t = some (.tup [.str x, .ref pl]) ∧ H pl = some (.lst (ps.map V.str))
structure HdsOk (hs : Hds) : Prop where
  ne : hs ≠ []
  few : hs.length ≤ 8
  nm : ∀ x ps, (x, ps) ∈ hs → Nm 8 x ∧ ps.length ≤ 4
theorem HdsAt.of {H H' : Hp} {hd : Addr} {hs : Hds} (h : HdsAt H hd hs) (g : ∀ (q : Addr) (o : HO), H q = some o → (∀ a b, o ≠ .lst [.int a, .int b]) → (∀ kvs, o ≠ .dK kvs) → H' q = some o) : HdsAt H' hd hs := by
  obtain ⟨vs, e, hl, hv⟩ := h.ls
  refine ⟨vs, g _ _ e (fun a b z => ?_) (fun _ z => nomatch z), hl, fun i x ps hi => ?_⟩
  · injection z with z
    rw [z] at hl hv
    cases hs with
    | nil => cases hl
    | cons h0 hs =>
      obtain ⟨t, pl, h1, _⟩ := hv 0 h0.1 h0.2 rfl
      cases (show some (V.int a) = some (V.ref t) from h1)
  · obtain ⟨t, pl, h1, h2, h3⟩ := hv i x ps hi
    exact ⟨t, pl, h1, g _ _ h2 (fun _ _ z => nomatch z) (fun _ z => nomatch z), g _ _ h3 (strs_ne ps) (fun _ z => nomatch z)⟩
theorem HdsAt.pd {p sp : Addr} {H H' : Hp} {hd : Addr} {hs : Hds} (h : HdsAt H hd hs) (g : Pd p sp H H') : HdsAt H' hd hs := h.of fun q o e h1 h2 => g.at e h1 h2
theorem HdsAt.pg {p : Addr} {H H' : Hp} {hd : Addr} {hs : Hds} (h : HdsAt H hd hs) (g : Pg p H H') : HdsAt H' hd hs := h.of fun q o e h1 h2 => g.at e h1
theorem HdsAt.same {H H' : Hp} {hd : Addr} {hs : Hds} (h : HdsAt H hd hs) (g : Same H H') : HdsAt H' hd hs := h.of fun q o e h1 h2 => g _ _ e
/-! ### the marks: one after another, going down -/
def mkM (f c : Nat) : Nat := (f + 37 * c) % 100
def dm (f : Nat) : Nat → Nat → List Nat
  | _, 0 => []
  | 0, _ + 1 => []
  | c + 1, m + 1 => mkM f c :: dm f c m
theorem dm_zero (f c : Nat) : dm f c 0 = [] := by cases c <;> rfl
theorem dm_add (f : Nat) : ∀ (c m n : Nat), m ≤ c → dm f c (m + n) = dm f c m ++ dm f (c - m) n
  | c, 0, n, _ => by rw [dm_zero, Nat.zero_add, Nat.sub_zero]; rfl
  | 0, m + 1, n, h => by omega
  | c + 1, m + 1, n, h => by
    have e : m + 1 + n = (m + n) + 1 := by omega
    rw [e]
    show mkM f c :: dm f c (m + n) = (mkM f c :: dm f c m) ++ _
    rw [dm_add f c m n (by omega), show c + 1 - (m + 1) = c - m by omega]
    rfl
theorem dm_len (f : Nat) : ∀ (c m : Nat), (dm f c m).length ≤ m
  | c, 0 => by rw [dm_zero]; exact Nat.le_refl _
  | 0, m + 1 => Nat.zero_le _
  | c + 1, m + 1 => Nat.succ_le_succ (dm_len f c m)
theorem dm_all : ∀ f, f < 100 → (dm f 10 10).Nodup := by decide +kernel
theorem dm_nodup {f m : Nat} (hf : f < 100) (hm : m ≤ 10) : (dm f 10 m).Nodup := by
  have h := dm_all f hf
  have e : dm f 10 10 = dm f 10 m ++ dm f (10 - m) (10 - m) := by
    rw [← dm_add f 10 m (10 - m) hm]
    congr 1
    omega
  rw [e] at h
  exact (List.nodup_append.mp h).1
def CallsHs (hs : Hds) (l : List Rw) : Prop := ∀ x d as m, Rw.call x d as m ∈ l → ∃ ps, (d, ps) ∈ hs ∧ as.length = ps.length
theorem CallsHs.nil (hs : Hds) : CallsHs hs [] := fun x d as m h => by cases h
theorem CallsHs.app {hs : Hds} {a b : List Rw} (h1 : CallsHs hs a) (h2 : CallsHs hs b) : CallsHs hs (a ++ b) := fun x d as m h => by
  rcases List.mem_append.mp h with h | h
  · exact h1 _ _ _ _ h
  · exact h2 _ _ _ _ h
theorem marksRs_app : ∀ a b : List Rw, marksRs (a ++ b) = marksRs a ++ marksRs b
  | [], b => by simp [marksRs]
  | r :: a, b => by simp [marksRs, marksRs_app a b]
theorem RwsOk.app {k : Nat} : ∀ {a b : List Rw}, RwsOk k a → RwsOk k b → RwsOk k (a ++ b)
  | [], b, _, h => h
  | r :: a, b, h1, h2 => by
    unfold RwsOk at h1
    show RwsOk k (r :: (a ++ b))
    unfold RwsOk
    exact ⟨h1.1, h1.2.app h2⟩
end Cf


set_option Elab.async false
set_option linter.all false
set_option autoImplicit false
set_option maxRecDepth 100000
set_option maxHeartbeats 2000000
/-! _law_call. -/
namespace Cf
open PySem PySem.Spec PyProof.Rows L2
section
variable {P : Program} {w : World} {K : PySem.W.Frag} {mg : Str → Option Value} {base : Heap}
def spLCall : Sp := fun vs H Q _ => ∃ (p sp a hd : Addr) (i r c f : Nat) (hs : Hds) (xs : List Str), vs = [.ref p, .ref sp, .ref a] ∧ PoolAt H p ∧ StAt H sp hd i r (c + 1) f ∧ HdsAt H hd hs ∧ HdsOk hs ∧ i < hs.length ∧ NamesAt H a xs ∧
  ∀ (H' : Hp) (v : V) (x d : Str) (as : List Ex), Pd p sp H H' → StAt H' sp hd i r c f → At H' v (Rw.call x d as (mkM f c)).enc → Nm 4 x → (∃ ps, (d, ps) ∈ hs ∧ as.length = ps.length) → (∀ e ∈ as, ExOk 4 e) → Q v H'
abbrev sLCall : Stmt := top 47
theorem scLCall : FnScope ["pool", "state", "names", "heads", "at", "behind", "args", "held", "param"] ["pool", "state", "names"] (defScope sLCall) := ⟨rfl, rfl, rfl, by decide +kernel, rfl, by decide +kernel, by decide +kernel⟩
theorem ok_lcall (T : TxA mg) (D : Def K mg "_law_call" sLCall) (CT : Call P w K mg base 1 "_law_take" spTake) (CE : Call P w K mg base 7 "_law_expression" (spEg 5)) : Call P w K mg base 8 "_law_call" spLCall := by
  refine call_mk D (fun _ _ _ _ _ _ us hl => match us, hl with | [_, _, _], _ => rfl) scLCall (fun vs H Q E h => ?_) fun f0 cdv A outer s H vs Q E hr h => ?_
  · obtain ⟨p, sp, a, hd, i, r, c, f, hs, xs, rfl, _⟩ := h
    rfl
  obtain ⟨p, sp, a, hd, i, r, c, f, hs, xs, rfl, hp, hst, hH, hO, hi, ha, q⟩ := h
  have hu : A.units + 3 + 1 < cLine := hu_of hr
  refine ⟨_, pss_cons (ps_set (i := 3) scLCall.nd rfl (.inl rfl) (pe_dget hu (pv 1) pe_str (fun _ _ => rfl)))
    (pss_cons (ps_set (i := 4) scLCall.nd rfl (.inl rfl) (pe_cl CT hr (pa_cons (pv 0) (pa_cons (pe_callB call_len_seq (by rfl) T.len PySem.boot_len (pa_cons (pv 3) pa_nil)) pa_nil))))
    (pss_cons (ps_set (i := 5) scLCall.nd rfl (.inl rfl) (pe_op op_sub (pe_op op_sub (pe_callB call_len_seq (by rfl) T.len PySem.boot_len (pa_cons (pv 3) pa_nil)) (pe_dget hu (pv 1) pe_str (fun _ _ => rfl))) pe_int))
    (Evl.pss_cut (ps_if (PW.pt (pw_and (pt_cmpR op_gt (pv 5) pe_int (nomark _)) (pw_and1 (pt_cmpR op_gt (pe_cl CT hr (pa_cons (pv 0) (pa_cons pe_int pa_nil))) pe_int (nomark _)))))
      (pss_one (ps_set (i := 4) scLCall.nd rfl (.inl rfl) (pe_op op_add (pe_op op_add (pe_dget hu (pv 1) pe_str (fun _ _ => rfl)) pe_int) (pe_cl CT hr (pa_cons (pv 0) (pa_cons (pv 5) pa_nil)))))) pss_nil)
    (pss_cons (ps_dput hu (pv 1) pe_str (pe_op op_sub (pe_dget hu (pv 1) pe_str (fun _ _ => rfl)) pe_int) rfl)
    (pss_cons (ps_set (i := 6) scLCall.nd rfl (.inl rfl) (pe_callTy call_tuple_of (by rfl) T.tuple (by decide +kernel) (pa_cons
      (pe_lc (own := [("param", 8)]) (g := gName 8) (by rfl) scLCall.nd (pi_list (pe_ix ix_tup (pe_ix ix_list (pv 3) (pv 4) (fun _ _ => rfl)) pe_int (fun _ _ => rfl))) (blkOk_by (own := [("param", 8)]) (N := ["pool", "state", "names", "heads", "at", "behind", "args", "held", "param"]) (sc := defScope sLCall) (by decide +kernel)) (fun _ _ _ _ _ => pg_name (i := 8) scLCall.nd rfl (Or.inl rfl)) (fun _ _ _ _ _ => pts_nil)
        (fun _ _ _ _ _ => pe_cl CE hr (pa_cons (pv 0) (pa_cons (pv 2) (pa_cons pe_int pa_nil))))) pa_nil)))
    (pss_cons (ps_set (i := 7) scLCall.nd rfl (.inl rfl) (pe_ix ix_list (pv 2) (pe_cl CT hr (pa_cons (pv 0) (pa_cons (pe_callB call_len_seq (by rfl) T.len PySem.boot_len (pa_cons (pv 2) pa_nil)) pa_nil))) (fun _ _ => rfl)))
    (pss_one (ps_ret (pe_tup (pa_cons pe_str (pa_cons (pv 7) (pa_cons (pe_ix ix_tup (pe_ix ix_list (pv 3) (pv 4) (fun _ _ => rfl)) pe_int (fun _ _ => rfl)) (pa_cons (pv 6) (pa_cons (pe_op op_mod (pe_op op_add (pe_dget hu (pv 1) pe_str (fun _ _ => rfl)) (pe_op op_mul pe_int (pe_dget hu (pv 1) pe_str (fun _ _ => rfl)))) pe_int) pa_nil)))))))))))))), ?_⟩
  obtain ⟨vs, evs, hlv, _⟩ := hH.ls
  have few := hO.few
  have hvs : H hd = some (.lst vs) := evs
  -- heads = state["heads"]
  refine ⟨_, rfl, sp, _, rfl, hst.heads, ?_⟩
  -- at = _law_take(pool, len(heads))
  refine ⟨_, rfl, _, rfl, hd, _, rfl, .inl (SqL.of hvs), p, _, rfl, hp, by omega, by omega, fun H1 n1 g1 hn1 => ?_⟩
  have hst1 := hst.pg g1
  have hH1 := hH.pg g1
  have hne : ∀ a b, HO.lst vs ≠ .lst [.int a, .int b] := fun a b z => by
    injection z with z
    obtain ⟨vs', e', _, hv⟩ := hH.ls
    obtain rfl : vs = vs' := by
      rw [hvs] at e'
      exact HO.lst.inj (Option.some.inj e')
    rw [z] at hlv hv
    cases hs with
    | nil => cases hlv
    | cons h0 hs =>
      obtain ⟨t, pl, h1, _⟩ := hv 0 h0.1 h0.2 rfl
      cases (show some (V.int a) = some (V.ref t) from h1)
  have hvs1 : H1 hd = some (.lst vs) := g1.at hvs hne
  -- behind = len(heads) - state["at"] - 1
  refine ⟨_, rfl, hd, _, rfl, .inl (SqL.of hvs1), _, rfl, sp, _, rfl, hst1.at_, _, _, rfl, rfl, _, _, rfl, rfl, ?_⟩
  -- the place
  refine ⟨fun σ' H' => ∃ n : Nat, n < hs.length ∧ Pg p H H' ∧ σ' = [some (.ref p), some (.ref sp), some (.ref a), some (.ref hd), some (.int n), some (.int ((vs.length : Nat) - (i : Nat) - 1)), none, none, none], ?_, ?_⟩
  · refine ⟨_, rfl, _, _, rfl, rfl, _, rfl, ?_⟩
    by_cases hb : (0 : Int) < (vs.length : Nat) - (i : Nat) - 1
    · refine ifT (decide_eq_true hb) ⟨_, rfl, p, 4, rfl, g1.pool, by decide, by decide, fun H2 n2 g2 hn2 => ⟨_, _, rfl, rfl, _, rfl, ?_⟩⟩
      by_cases h0 : (0 : Int) < n2
      · refine ifT (decide_eq_true h0) ?_
        refine ⟨_, rfl, sp, _, rfl, (hst1.pg g2).at_, _, _, rfl, rfl, _, rfl, _, rfl, p, _, rfl, g2.pool, hb, by omega, fun H3 n3 g3 hn3 => ?_⟩
        refine ⟨_, _, rfl, rfl, i + 1 + n3, by omega, (g1.trans g2).trans g3, ?_⟩
        have e1 : ((i : Nat) : Int) + 1 + (n3 : Nat) = ((i + 1 + n3 : Nat) : Int) := by omega
        rw [← e1]
        rfl
      · exact ifF (decide_eq_false h0) ⟨n1, by omega, g1.trans g2, rfl⟩
    · exact ifF (decide_eq_false hb) ⟨n1, by omega, g1, rfl⟩
  rintro σ' H2 ⟨n, hn, g2, rfl⟩
  have hst2 := hst.pg g2
  -- state["calls"] = state["calls"] - 1
  have ec : (((c + 1 : Nat) : Int) - 1) = ((c : Nat) : Int) := by omega
  refine ⟨_, rfl, sp, _, rfl, hst2.calls, _, _, rfl, rfl, _, rfl, sp, _, rfl, by
    have h := hst2.putCalls c
    rw [← ec] at h
    exact h, ?_⟩
  have P3 : Pd p sp H (upd H2 sp (.dK (stD hd i r c f))) := (g2.pd hst.dk).trans (pd_put g2.pool hst2.dk _)
  have hst3 : StAt (upd H2 sp (.dK (stD hd i r c f))) sp hd i r c f := upd_same
  generalize upd H2 sp (.dK (stD hd i r c f)) = H3 at P3 hst3
  have hvs3 : H3 hd = some (.lst vs) := P3.at hvs hne fun _ z => nomatch z
  obtain ⟨vs', e', _, hv⟩ := (hH.pd P3).ls
  obtain rfl : vs = vs' := by
    rw [hvs3] at e'
    exact HO.lst.inj (Option.some.inj e')
  obtain ⟨d, ps, hgn⟩ : ∃ d ps, hs[n]? = some (d, ps) := ⟨hs[n].1, hs[n].2, by rw [List.getElem?_eq_getElem hn]⟩
  have hmem : (d, ps) ∈ hs := List.mem_of_getElem? hgn
  obtain ⟨t, pl, hvn, et, epl⟩ := hv n d ps hgn
  have hps := (hO.nm d ps hmem).2
  -- args
  refine ⟨_, rfl, _, rfl, hd, _, _, _, rfl, rfl, SqL.of hvs3, atI_nat hvn, t, _, 1, _, rfl, rfl, SqT.of et, atI_nat (j := 1) rfl, pl, rfl, ⟨_, SqL.of epl⟩, fun L hL => ?_⟩
  have hL0 := P3.free hL
  refine lc_it (walk_list (xs := ps.map V.str)) (fun j H' => ∃ (us : List V) (as : List Ex), Pg p H3 H' ∧ H' L = some (.lst us) ∧ Ats H' us (as.map Ex.enc) ∧ as.length = j ∧ ∀ e ∈ as, ExOk 4 e)
    ⟨[], [], P3.pool.pg (same_upd hL), upd_same, .nil, rfl, fun e he => by cases he⟩ (fun j H' _ h => by
      obtain ⟨us, as, g, _⟩ := h
      exact SqL.of (g.strs epl)) ?_ ?_
  · rintro j y Ha Hb hj ⟨us, as, g, eL, hA, hl, hE⟩ ⟨rfl, hy⟩
    rw [List.length_map] at hj
    refine ⟨rfl, _, rfl, _, rfl, p, a, 3, xs, 2, rfl, g.pool, (ha.pd P3).pg g, by omega, by omega, fun H5 v5 e5 g5 A5 k5 => ?_⟩
    have eL5 : H5 L = some (.lst us) := g5.fr _ _ eL fun z => by
      have e1 : L = p := by simpa using z
      rw [e1] at hL0
      exact hp.some hL0
    refine ⟨us, eL5, by rw [hA.len, List.length_map, hl]; exact szl (by omega), us ++ [v5], as ++ [e5], (g.trans g5).mut hL, upd_same, ?_, by rw [List.length_append, hl]; rfl, fun e he => ?_⟩
    · rw [List.map_append]
      have kp : Keep H5 (upd H5 L (.lst (us ++ [v5]))) := Keep.wr eL5 (by intro xs z; cases z)
      exact ((hA.mono g5.keep).mono kp).snoc (A5.mono kp)
    · rcases List.mem_append.mp he with he | he
      · exact hE e he
      · have : e = e5 := by simpa using he
        rw [this]
        exact k5.mono (by omega)
  · rintro H4 ⟨us, as, g4, eL, hA, hl, hE⟩
    rw [List.length_map] at hl
    refine ⟨L, us, rfl, .inl ⟨SqL.of eL, fun tt ht => ?_⟩⟩
    have s4 := same_upd (o := .tup us) ht
    have A5 := at_new ht hA
    have P5 : Pd p sp H (upd H4 tt (.tup us)) := (P3.pg g4).same s4
    have g5 : Pg p H3 (upd H4 tt (.tup us)) := g4.same s4
    generalize upd H4 tt (.tup us) = H5 at s4 A5 P5 g5
    have ha5 := ha.pd P5
    have hpos := ha.pos
    have hfew := ha.few
    refine ⟨_, rfl, _, rfl, _, rfl, a, _, rfl, .inl (SqL.of ha5.at_), p, _, rfl, P5.pool, by rw [List.length_map]; omega, by rw [List.length_map]; omega, fun H6 k g6 hk => ?_⟩
    rw [List.length_map] at hk
    have hk' : k < xs.length := by omega
    obtain ⟨hgx, hN⟩ := ha5.get hk'
    refine ⟨a, _, _, _, rfl, rfl, SqL.of (g6.strs ha5.at_), atI_nat hgx, ?_⟩
    have P6 := P5.pg g6
    have g56 := g5.trans g6
    have hst6 := hst3.pg g56
    refine ⟨_, rfl, _, rfl, _, rfl, hd, _, _, _, rfl, rfl, SqL.of (g56.at hvs3 hne), atI_nat hvn, t, _, 0, _, rfl, rfl, SqT.of (g56.keep _ _ et), atI_nat (j := 0) rfl, _, rfl, ?_⟩
    refine ⟨_, rfl, sp, _, rfl, hst6.first, _, rfl, sp, _, rfl, hst6.calls, _, _, rfl, rfl, .inl ⟨by decide, by decide⟩, _, _, rfl, rfl, _, _, rfl, rfl, (by show (0 : Int) < 100; decide), szn 5, fun tt ht => ?_⟩
    have em : (((f : Nat) : Int) + 37 * ((c : Nat) : Int)) % 100 = ((mkM f c : Nat) : Int) := by
      unfold mkM
      omega
    refine q _ _ xs[k] d as (P6.same (same_upd ht)) (same_upd ht _ _ hst6) ?_ hN ⟨ps, hmem, hl⟩ hE
    show At (upd H6 tt (.tup [V.str "call", V.str xs[k], V.str d, _, V.int ((((f : Nat) : Int) + 37 * ((c : Nat) : Int)) % 100)])) (.ref tt) (.tuple [.str "call", .str xs[k], .str d, .tuple (as.map Ex.enc), .int ((mkM f c : Nat) : Int)])
    rw [em]
    exact at_new ht (.cons (.str _) (.cons (.str _) (.cons (.str _) (.cons (A5.mono g6.keep) (.cons (.int _) .nil)))))
end
end Cf


set_option Elab.async false
set_option linter.all false
set_option autoImplicit false
set_option maxRecDepth 100000
set_option maxHeartbeats 2000000
/-! _law_row, _law_rows. -/
namespace Cf
open PySem PySem.Spec PyProof.Rows L2
section
variable {P : Program} {w : World} {K : PySem.W.Frag} {mg : Str → Option Value} {base : Heap}
def spLRow (n : Nat) : Sp := fun vs H Q _ => ∃ (p sp a hd : Addr) (i r c f kk : Nat) (deep : Int) (hs : Hds) (xs : List Str), vs = [.ref p, .ref sp, .ref a, .int deep] ∧ PoolAt H p ∧ StAt H sp hd i (r + 1) c f ∧ HdsAt H hd hs ∧ HdsOk hs ∧ i < hs.length ∧ NamesAt H a xs ∧
  deep + kk = 3 ∧ 1 ≤ deep ∧ kk < n ∧ r ≤ 1000 ∧
  ∀ (H' : Hp) (v : V) (rw : Rw) (r' m : Nat), Pd p sp H H' → StAt H' sp hd i r' (c - m) f → m ≤ c → At H' v rw.enc → RwOk kk rw → rw.cnt + r' = r + 1 → rw.marks = dm f c m → CallsHs hs rw.flat → Q v H'
def spLRows (n : Nat) : Sp := fun vs H Q _ => ∃ (p sp a hd : Addr) (i r c f kk : Nat) (deep : Int) (hs : Hds) (xs : List Str), vs = [.ref p, .ref sp, .ref a, .int deep] ∧ PoolAt H p ∧ StAt H sp hd i r c f ∧ HdsAt H hd hs ∧ HdsOk hs ∧ i < hs.length ∧ NamesAt H a xs ∧
  deep + kk = 3 ∧ 1 ≤ deep ∧ kk < n ∧ r ≤ 1000 ∧
  ∀ (H' : Hp) (v : V) (rws : List Rw) (r' m : Nat), Pd p sp H H' → StAt H' sp hd i r' (c - m) f → m ≤ c → At H' v (.tuple (encRs rws)) → RwsOk kk rws → cntRs rws + r' = r → marksRs rws = dm f c m → CallsHs hs (flatRs rws) → Q v H'
abbrev sLRow : Stmt := top 48
abbrev sLRows : Stmt := top 49
theorem scLRow : FnScope ["pool", "state", "names", "deep", "way", "held", "expression", "rows"] ["pool", "state", "names", "deep"] (defScope sLRow) := ⟨rfl, rfl, rfl, by decide +kernel, rfl, by decide +kernel, by decide +kernel⟩
theorem scLRows : FnScope ["pool", "state", "names", "deep", "found", "k"] ["pool", "state", "names", "deep"] (defScope sLRows) := ⟨rfl, rfl, rfl, by decide +kernel, rfl, by decide +kernel, by decide +kernel⟩
theorem ok_lrow (T : TxA mg) (D : Def K mg "_law_row" sLRow) (CT : Call P w K mg base 1 "_law_take" spTake) (CE : Call P w K mg base 7 "_law_expression" (spEg 5)) (CC : Call P w K mg base 8 "_law_call" spLCall) {n k : Nat} (hk : 9 ≤ k) (CR : Call P w K mg base k "_law_rows" (spLRows n)) : Call P w K mg base (k + 1) "_law_row" (spLRow (n + 1)) := by
  refine call_mk D (fun _ _ _ _ _ _ us hl => match us, hl with | [_, _, _, _], _ => rfl) scLRow (fun vs H Q E h => ?_) fun f0 cdv A outer s H vs Q E hr h => ?_
  · obtain ⟨p, sp, a, hd, i, r, c, f, kk, deep, hs, xs, rfl, _⟩ := h
    rfl
  obtain ⟨p, sp, a, hd, i, r, c, f, kk, deep, hs, xs, rfl, hp, hst, hH, hO, hi, ha, hdp, hd1, hkn, hr1, q⟩ := h
  have hu : A.units + 3 + 1 < cLine := hu_of hr
  refine ⟨_, pss_cons (ps_set (i := 4) scLRow.nd rfl (.inl rfl) (pe_cl CT hr (pa_cons (pv 0) (pa_cons pe_int pa_nil))))
    (pss_cons (ps_dput hu (pv 1) pe_str (pe_op op_sub (pe_dget hu (pv 1) pe_str (fun _ _ => rfl)) pe_int) rfl)
    (pss_cons (ps_if (PW.pt (pw_and (pt_cmpR op_lt (pv 4) pe_int (nomark _)) (pw_and1 (pt_cmpR op_gt (pe_dget hu (pv 1) pe_str (fun _ _ => rfl)) pe_int (nomark _)))))
      (pss_one (ps_ret (pe_cl CC hr (pa_cons (pv 0) (pa_cons (pv 1) (pa_cons (pv 2) pa_nil)))))) pss_nil)
    (pss_cons (ps_set (i := 5) scLRow.nd rfl (.inl rfl) (pe_ix ix_list (pv 2) (pe_cl CT hr (pa_cons (pv 0) (pa_cons (pe_callB call_len_seq (by rfl) T.len PySem.boot_len (pa_cons (pv 2) pa_nil)) pa_nil))) (fun _ _ => rfl)))
    (pss_cons (ps_set (i := 6) scLRow.nd rfl (.inl rfl) (pe_cl CE hr (pa_cons (pv 0) (pa_cons (pv 2) (pa_cons (pe_op op_add pe_int (pe_cl CT hr (pa_cons (pv 0) (pa_cons pe_int pa_nil)))) pa_nil)))))
    (pss_cons (ps_if (PW.pt (pw_and (pt_cmpR op_eq (pv 4) pe_int (nomark _)) (pw_and1 (pt_cmpR op_lt (pv 3) pe_int (nomark _)))))
      (pss_cons (ps_set (i := 7) scLRow.nd rfl (.inl rfl) (pe_cl CR hr (pa_cons (pv 0) (pa_cons (pv 1) (pa_cons (pv 2) (pa_cons (pe_op op_add (pv 3) pe_int) pa_nil))))))
      (pss_one (ps_ret (pe_tup (pa_cons pe_str (pa_cons (pv 6) (pa_cons (pv 7) (pa_cons (pe_cl CR hr (pa_cons (pv 0) (pa_cons (pv 1) (pa_cons (pv 2) (pa_cons (pe_op op_add (pv 3) pe_int) pa_nil))))) pa_nil)))))))) pss_nil)
    (pss_cons (ps_if (PW.pt (pw_and (pt_cmpR op_eq (pv 4) pe_int (nomark _)) (pw_and1 (pt_cmpR op_lt (pv 3) pe_int (nomark _)))))
      (pss_one (ps_ret (pe_tup (pa_cons pe_str (pa_cons (pv 6) (pa_cons (pe_cl CR hr (pa_cons (pv 0) (pa_cons (pv 1) (pa_cons (pv 2) (pa_cons (pe_op op_add (pv 3) pe_int) pa_nil))))) pa_nil)))))) pss_nil)
    (pss_cons (ps_if (pt_cmpR op_lt (pv 4) pe_int (nomark _)) (pss_one (ps_ret (pe_tup (pa_cons pe_str (pa_cons (pv 6) pa_nil))))) pss_nil)
    (pss_one (ps_ret (pe_tup (pa_cons pe_str (pa_cons (pv 5) (pa_cons (pv 6) pa_nil))))))))))))), ?_⟩
  refine ⟨_, rfl, p, 10, rfl, hp, by decide, by decide, fun H1 n1 g1 hn1 => ?_⟩
  have hst1 := hst.pg g1
  have er : (((r + 1 : Nat) : Int) - 1) = ((r : Nat) : Int) := by omega
  refine ⟨_, rfl, sp, _, rfl, hst1.rows, _, _, rfl, rfl, _, rfl, sp, _, rfl, by
    have h := hst1.putRows r
    rw [← er] at h
    exact h, ?_⟩
  have P2 : Pd p sp H (upd H1 sp (.dK (stD hd i r c f))) := (g1.pd hst.dk).trans (pd_put g1.pool hst1.dk _)
  have hst2 : StAt (upd H1 sp (.dK (stD hd i r c f))) sp hd i r c f := upd_same
  generalize upd H1 sp (.dK (stD hd i r c f)) = H2 at P2 hst2
  have rest : tSeq (tAsg (tOp (rIxL K) (tVar 2) (tCall spTake [] E0 (tCons (tVar 0) (tCons (tCB (rLn K) (tCons (tVar 2) tNil)) tNil)))) (gName 5))
      (tSeq (tAsg (tCall (spEg 5) [] E0 (tCons (tVar 0) (tCons (tVar 2) (tCons (tOp (rI0 fun i j => .int (i + j)) (tC (.int 1)) (tCall spTake [] E0 (tCons (tVar 0) (tCons (tC (.int 4)) tNil)))) tNil)))) (gName 6))
      (tSeq (tIfS (tAnd (tTest (tOp rEq (tVar 4) (tC (.int 3)))) (tTest (tOp (rI0 fun i j => .bl (decide (i < j))) (tVar 3) (tC (.int 3)))))
          (tSeq (tAsg (tCall (spLRows n) [] E0 (tCons (tVar 0) (tCons (tVar 1) (tCons (tVar 2) (tCons (tOp (rI0 fun i j => .int (i + j)) (tVar 3) (tC (.int 1))) tNil))))) (gName 7))
            (tRet (tTup (tCons (tC (.str "when")) (tCons (tVar 6) (tCons (tVar 7) (tCons (tCall (spLRows n) [] E0 (tCons (tVar 0) (tCons (tVar 1) (tCons (tVar 2) (tCons (tOp (rI0 fun i j => .int (i + j)) (tVar 3) (tC (.int 1))) tNil))))) tNil))))))) tNext)
      (tSeq (tIfS (tAnd (tTest (tOp rEq (tVar 4) (tC (.int 4)))) (tTest (tOp (rI0 fun i j => .bl (decide (i < j))) (tVar 3) (tC (.int 3)))))
            (tRet (tTup (tCons (tC (.str "turn")) (tCons (tVar 6) (tCons (tCall (spLRows n) [] E0 (tCons (tVar 0) (tCons (tVar 1) (tCons (tVar 2) (tCons (tOp (rI0 fun i j => .int (i + j)) (tVar 3) (tC (.int 1))) tNil))))) tNil))))) tNext)
      (tSeq (tIfS (tTest (tOp (rI0 fun i j => .bl (decide (i < j))) (tVar 4) (tC (.int 7)))) (tRet (tTup (tCons (tC (.str "say")) (tCons (tVar 6) tNil)))) tNext)
        (tRet (tTup (tCons (tC (.str "set")) (tCons (tVar 5) (tCons (tVar 6) tNil))))))))) { nx := fun _ H' => Q .non H', rt := Q } [some (.ref p), some (.ref sp), some (.ref a), some (.int deep), some (.int n1), none, none, none] H2 := by
    have ha2 := ha.pd P2
    have hpos := ha.pos
    have hfew := ha.few
    refine ⟨_, rfl, _, rfl, _, rfl, a, _, rfl, .inl (SqL.of ha2.at_), p, _, rfl, P2.pool, by rw [List.length_map]; omega, by rw [List.length_map]; omega, fun H3 n3 g3 hn3 => ?_⟩
    rw [List.length_map] at hn3
    have hk' : n3 < xs.length := by omega
    have ha3 := ha2.pg g3
    obtain ⟨hgx, hN⟩ := ha3.get hk'
    refine ⟨a, _, _, _, rfl, rfl, SqL.of ha3.at_, atI_nat hgx, ?_⟩
    refine ⟨_, rfl, _, rfl, _, rfl, p, 4, rfl, g3.pool, by decide, by decide, fun H4 n4 g4 hn4 => ?_⟩
    have ha4 := ha3.pg g4
    refine ⟨_, _, rfl, rfl, p, a, _, xs, 4 - n4, rfl, g4.pool, ha4, by omega, by omega, fun H5 ve e g5 Ae ke => ?_⟩
    have ke4 : ExOk 4 e := ke.mono (by omega)
    have g25 := (g3.trans g4).trans g5
    have P5 := P2.pg g25
    have hst5 := hst2.pg g25
    have ha5 := ha4.pg g5
    have hH5 := hH.pd P5
    refine ⟨_, rfl, rfl, _, rfl, ?_⟩
    have hsay : RwOk kk (.say e) := by
      cases kk <;> (unfold RwOk; exact ke4)
    have hset : RwOk kk (.set xs[n3] e) := by
      cases kk <;> (unfold RwOk; exact ⟨hN, ke4⟩)
    -- the ways behind the nested rows
    have tail : tSeq (tIfS (tTest (tOp (rI0 fun i j => .bl (decide (i < j))) (tVar 4) (tC (.int 7)))) (tRet (tTup (tCons (tC (.str "say")) (tCons (tVar 6) tNil)))) tNext)
        (tRet (tTup (tCons (tC (.str "set")) (tCons (tVar 5) (tCons (tVar 6) tNil))))) { nx := fun _ H' => Q .non H', rt := Q } [some (.ref p), some (.ref sp), some (.ref a), some (.int deep), some (.int n1), some (.str xs[n3]), some ve, none] H5 := by
      refine ⟨_, rfl, _, _, rfl, rfl, _, rfl, ?_⟩
      by_cases h7 : (n1 : Int) < 7
      · refine ifT (decide_eq_true h7) ⟨_, rfl, szn 2, fun t ht => ?_⟩
        have s6 := same_upd (o := .tup [V.str "say", ve]) ht
        exact q _ _ (.say e) r 0 (P5.same s6) (s6 _ _ hst5) (Nat.zero_le _) (at_new ht (.cons (.str _) (.cons Ae .nil))) hsay (by simp only [Rw.cnt]; omega) (by rw [dm_zero]; rfl) (fun x d as m h => by simp [Rw.flat] at h)
      · refine ifF (decide_eq_false h7) ⟨_, rfl, _, rfl, szn 3, fun t ht => ?_⟩
        have s6 := same_upd (o := .tup [V.str "set", V.str xs[n3], ve]) ht
        exact q _ _ (.set xs[n3] e) r 0 (P5.same s6) (s6 _ _ hst5) (Nat.zero_le _) (at_new ht (.cons (.str _) (.cons (.str _) (.cons Ae .nil)))) hset (by simp only [Rw.cnt]; omega) (by rw [dm_zero]; rfl) (fun x d as m h => by simp [Rw.flat] at h)
    have turn : tSeq (tIfS (tAnd (tTest (tOp rEq (tVar 4) (tC (.int 4)))) (tTest (tOp (rI0 fun i j => .bl (decide (i < j))) (tVar 3) (tC (.int 3)))))
            (tRet (tTup (tCons (tC (.str "turn")) (tCons (tVar 6) (tCons (tCall (spLRows n) [] E0 (tCons (tVar 0) (tCons (tVar 1) (tCons (tVar 2) (tCons (tOp (rI0 fun i j => .int (i + j)) (tVar 3) (tC (.int 1))) tNil))))) tNil))))) tNext)
      (tSeq (tIfS (tTest (tOp (rI0 fun i j => .bl (decide (i < j))) (tVar 4) (tC (.int 7)))) (tRet (tTup (tCons (tC (.str "say")) (tCons (tVar 6) tNil)))) tNext)
        (tRet (tTup (tCons (tC (.str "set")) (tCons (tVar 5) (tCons (tVar 6) tNil)))))) { nx := fun _ H' => Q .non H', rt := Q } [some (.ref p), some (.ref sp), some (.ref a), some (.int deep), some (.int n1), some (.str xs[n3]), some ve, none] H5 := by
      refine ⟨_, rfl, rfl, _, rfl, ?_⟩
      by_cases h4 : V.int (n1 : Int) = V.int 4
      · refine ifT (decide_eq_true h4) ⟨_, rfl, _, _, rfl, rfl, _, rfl, ?_⟩
        by_cases h3 : deep < 3
        · refine ifT (decide_eq_true h3) ?_
          obtain ⟨kk, rfl⟩ : ∃ k', kk = k' + 1 := ⟨kk - 1, by omega⟩
          refine ⟨_, rfl, _, rfl, _, rfl, _, rfl, _, rfl, _, _, rfl, rfl, p, sp, a, hd, i, r, c, f, kk, deep + 1, hs, xs, rfl, P5.pool, hst5, hH5, hO, hi, ha5, by omega, by omega, by omega, hr1, fun H6 v6 rws r6 m6 P6 hst6 hm6 A6 k6 c6 e6 h6 => ?_⟩
          refine ⟨szn 3, fun t ht => ?_⟩
          have s7 := same_upd (o := .tup [V.str "turn", ve, v6]) ht
          refine q _ _ (.turn e rws) r6 m6 ((P5.trans P6).same s7) (s7 _ _ hst6) hm6 (at_new ht (.cons (.str _) (.cons (Ae.mono P6.keep) (.cons A6 .nil)))) ?_ (by simp only [Rw.cnt]; omega) (by simp only [Rw.marks]; exact e6) ?_
          · unfold RwOk
            exact ⟨ke4, k6⟩
          · intro x d as m h
            simp only [Rw.flat, List.mem_cons] at h
            rcases h with h | h
            · cases h
            · exact h6 _ _ _ _ h
        · exact ifF (decide_eq_false h3) tail
      · exact ifF (decide_eq_false h4) tail
    by_cases h3 : V.int (n1 : Int) = V.int 3
    · refine ifT (decide_eq_true h3) ⟨_, rfl, _, _, rfl, rfl, _, rfl, ?_⟩
      by_cases h3 : deep < 3
      · refine ifT (decide_eq_true h3) ?_
        obtain ⟨kk, rfl⟩ : ∃ k', kk = k' + 1 := ⟨kk - 1, by omega⟩
        refine ⟨_, rfl, _, rfl, _, rfl, _, rfl, _, _, rfl, rfl, p, sp, a, hd, i, r, c, f, kk, deep + 1, hs, xs, rfl, P5.pool, hst5, hH5, hO, hi, ha5, by omega, by omega, by omega, hr1, fun H6 v6 rws r6 m6 P6 hst6 hm6 A6 k6 c6 e6 h6 => ?_⟩
        refine ⟨_, rfl, _, rfl, _, rfl, _, rfl, _, rfl, _, rfl, _, _, rfl, rfl, p, sp, a, hd, i, r6, c - m6, f, kk, deep + 1, hs, xs, rfl, P6.pool, hst6, hH5.pd P6, hO, hi, ha5.pd P6, by omega, by omega, by omega, by omega, fun H7 v7 rws7 r7 m7 P7 hst7 hm7 A7 k7 c7 e7 h7 => ?_⟩
        refine ⟨szn 4, fun t ht => ?_⟩
        have s7 := same_upd (o := .tup [V.str "when", ve, v6, v7]) ht
        have em : c - m6 - m7 = c - (m6 + m7) := by omega
        rw [em] at hst7
        refine q _ _ (.when e rws rws7) r7 (m6 + m7) (((P5.trans P6).trans P7).same s7) (s7 _ _ hst7) (by omega) (at_new ht (.cons (.str _) (.cons (Ae.mono (P6.keep.trans P7.keep)) (.cons (A6.mono P7.keep) (.cons A7 .nil))))) ?_ (by simp only [Rw.cnt]; omega) (by simp only [Rw.marks]; rw [e6, e7, dm_add f c m6 m7 hm6]) ?_
        · unfold RwOk
          exact ⟨ke4, k6, k7⟩
        · intro x d as m h
          simp only [Rw.flat, List.mem_cons] at h
          rcases h with h | h
          · cases h
          · exact (h6.app h7) _ _ _ _ h
      · exact ifF (decide_eq_false h3) turn
    · exact ifF (decide_eq_false h3) turn
  refine ⟨_, rfl, _, _, rfl, rfl, _, rfl, ?_⟩
  by_cases h3 : (n1 : Int) < 3
  · refine ifT (decide_eq_true h3) ⟨_, rfl, sp, _, rfl, hst2.calls, _, _, rfl, rfl, _, rfl, ?_⟩
    by_cases h0 : (0 : Int) < (c : Nat)
    · refine ifT (decide_eq_true h0) ?_
      obtain ⟨c, rfl⟩ : ∃ c', c = c' + 1 := ⟨c - 1, by omega⟩
      refine ⟨_, rfl, _, rfl, _, rfl, p, sp, a, hd, i, r, c, f, hs, xs, rfl, P2.pool, hst2, hH.pd P2, hO, hi, ha.pd P2, fun H3 v x d as P3 hst3 A3 hN hC hE => ?_⟩
      obtain ⟨ps, hmem, hl⟩ := hC
      obtain ⟨hd8, hps⟩ := hO.nm d ps hmem
      have hmk : mkM f c < 100 := Nat.mod_lt _ (by decide)
      refine q _ _ (.call x d as (mkM f c)) r 1 (P2.trans P3) hst3 (by omega) A3 ?_ (by simp only [Rw.cnt]; omega) (by show [mkM f c] = mkM f c :: dm f c 0; rw [dm_zero]) ?_
      · cases kk <;> (unfold RwOk; exact ⟨hN, hd8, by omega, hE, by omega⟩)
      · intro x' d' as' m' h
        have h' : Rw.call x' d' as' m' = Rw.call x d as (mkM f c) := by simpa [Rw.flat] using h
        cases h'
        exact ⟨ps, hmem, hl⟩
    · exact ifF (decide_eq_false h0) rest
  · exact ifF (decide_eq_false h3) rest
end
end Cf


set_option Elab.async false
set_option linter.all false
set_option autoImplicit false
set_option maxRecDepth 100000
set_option maxHeartbeats 2000000
/-! _law_rows; both together. -/
namespace Cf
open PySem PySem.Spec PyProof.Rows L2
section
variable {P : Program} {w : World} {K : PySem.W.Frag} {mg : Str → Option Value} {base : Heap}
theorem ok_lrows (T : TxA mg) (hrange : mg "range" = none) (D : Def K mg "_law_rows" sLRows) (CT : Call P w K mg base 1 "_law_take" spTake) {n k : Nat} (hk : 1 ≤ k) (CR : Call P w K mg base k "_law_row" (spLRow n)) : Call P w K mg base (k + 1) "_law_rows" (spLRows n) := by
  refine call_mk D (fun _ _ _ _ _ _ us hl => match us, hl with | [_, _, _, _], _ => rfl) scLRows (fun vs H Q E h => ?_) fun f0 cdv A outer s H vs Q E hr h => ?_
  · obtain ⟨p, sp, a, hd, i, r, c, f, kk, deep, hs, xs, rfl, _⟩ := h
    rfl
  obtain ⟨p, sp, a, hd, i, r, c, f, kk, deep, hs, xs, rfl, hp, hst, hH, hO, hi, ha, hdp, hd1, hkn, hr1, q⟩ := h
  have hu : A.units + 3 + 1 < cLine := hu_of hr
  refine ⟨_, pss_cons (ps_set (i := 4) scLRows.nd rfl (.inl rfl) (pe_lst pa_nil))
    (pss_cons (ps_for PassesOwn.never rfl (pi_range1 (by rfl) hrange (pa_cons (pe_cl CT hr (pa_cons (pv 0) (pa_cons (pe_ix ix_list (pe_lst (pa_cons pe_int (pa_cons pe_int (pa_cons pe_int (pa_cons pe_int pa_nil))))) (pv 3) (fun _ _ => rfl)) pa_nil))) pa_nil)) (pg_name (i := 5) scLRows.nd rfl (.inl rfl))
      (pss_one (ps_if (pt_cmpR op_gt (pe_dget hu (pv 1) pe_str (fun _ _ => rfl)) pe_int (nomark _))
        (pss_one (ps_expr (pe_bm PySem.F.plainAttrs_list PySem.F.slot_list_append PySem.F.type_list_append mt_append (pv 4) (pa_cons (pe_cl CR hr (pa_cons (pv 0) (pa_cons (pv 1) (pa_cons (pv 2) (pa_cons (pv 3) pa_nil))))) pa_nil)))) pss_nil)))
    (pss_one (ps_ret (pe_callTy call_tuple_of (by rfl) T.tuple (by decide +kernel) (pa_cons (pv 4) pa_nil))))), ?_⟩
  refine ⟨szn 0, fun L hL => ?_⟩
  have s1 := same_upd (o := .lst []) hL
  have e1 : (upd H L (.lst [])) L = some (.lst []) := upd_same
  generalize upd H L (.lst []) = H1 at s1 e1
  refine ⟨_, rfl, szn 4, fun l hl => ?_⟩
  have s2 := same_upd (o := .lst [V.int 8, V.int 6, V.int 4, V.int 3]) hl
  have e2 : (upd H1 l (.lst [V.int 8, V.int 6, V.int 4, V.int 3])) l = some (.lst [V.int 8, V.int 6, V.int 4, V.int 3]) := upd_same
  generalize upd H1 l (.lst [V.int 8, V.int 6, V.int 4, V.int 3]) = H2 at s2 e2
  have hm : ∃ m : Int, atI ([V.int 8, V.int 6, V.int 4, V.int 3] : List V) deep = some (.int m) ∧ 0 < m ∧ m ≤ 1000000 := by
    have h3 : deep = 1 ∨ deep = 2 ∨ deep = 3 := by omega
    rcases h3 with rfl | rfl | rfl
    · exact ⟨6, rfl, by decide, by decide⟩
    · exact ⟨4, rfl, by decide, by decide⟩
    · exact ⟨3, rfl, by decide, by decide⟩
  obtain ⟨m, hm, m1, m2⟩ := hm
  have s12 := s1.trans s2
  refine ⟨_, rfl, l, _, _, _, rfl, rfl, SqL.of e2, hm, p, m, rfl, hp.same s12, m1, m2, fun H3 t g3 ht => ?_⟩
  have P3 : Pd p sp H H3 := ((hp.pg s12).trans g3).pd hst.dk
  have hst3 := (show StAt H2 sp hd i r c f from s12 _ _ hst).pg g3
  have e3 : H3 L = some (.lst []) := g3.fr _ _ (s2 _ _ e1) fun z => by
    have z1 : L = p := by simpa using z
    rw [z1] at hL
    exact hp.some hL
  refine ⟨_, rfl, by omega, by omega, ?_⟩
  refine for_it (walk_range (lo := 0) (n := t)) (fun j σ H' => ∃ (y : Option V) (us : List V) (rws : List Rw) (r' m : Nat), σ = [some (.ref p), some (.ref sp), some (.ref a), some (.int deep), some (.ref L), y] ∧ Pd p sp H H' ∧ StAt H' sp hd i r' (c - m) f ∧ m ≤ c ∧ H' L = some (.lst us) ∧ Ats H' us (encRs rws) ∧ RwsOk kk rws ∧ cntRs rws + r' = r ∧ marksRs rws = dm f c m ∧ CallsHs hs (flatRs rws))
    ⟨none, [], [], r, 0, rfl, P3, hst3, Nat.zero_le _, e3, by unfold encRs; exact .nil, by unfold RwsOk; exact True.intro, by unfold cntRs; omega, by rw [dm_zero]; unfold marksRs; rfl, by unfold flatRs; exact CallsHs.nil _⟩ (fun _ _ _ _ _ => True.intro) ?_ ?_
  · rintro j x σ Ha Hb hj ⟨y, us, rws, r', m', rfl, Pa, hsta, hm', eL, hA, hR, hc, hM, hC⟩ ⟨rfl, rfl⟩
    refine ⟨_, rfl, sp, _, rfl, hsta.rows, _, _, rfl, rfl, _, rfl, ?_⟩
    by_cases h0 : (0 : Int) < (r' : Nat)
    · refine ifT (decide_eq_true h0) ?_
      obtain ⟨r', rfl⟩ : ∃ r'', r' = r'' + 1 := ⟨r' - 1, by omega⟩
      refine ⟨_, rfl, .inl ⟨rfl, _, SqL.of eL⟩, ?_⟩
      refine ⟨_, rfl, _, rfl, _, rfl, _, rfl, p, sp, a, hd, i, r', c - m', f, kk, deep, hs, xs, rfl, Pa.pool, hsta, hH.pd Pa, hO, hi, ha.pd Pa, hdp, hd1, hkn, by omega, fun H4 v4 rw4 r4 m4 P4 hst4 hm4 A4 k4 c4 e4 h4 => ?_⟩
      have eL4 : H4 L = some (.lst us) := P4.own eL hL hp.some hst.dk.some
      refine ⟨L, us, v4, rfl, rfl, eL4, ?_, ?_⟩
      · rw [hA.len]
        have := enc_cnt rws
        exact szl (by omega)
      have kp : Keep H4 (upd H4 L (.lst (us ++ [v4]))) := Keep.wr eL4 (by intro xs z; cases z)
      have em : c - m' - m4 = c - (m' + m4) := by omega
      rw [em] at hst4
      refine ⟨some (.int (0 + (j : Nat))), us ++ [v4], rws ++ [rw4], r4, m' + m4, rfl, (Pa.trans P4).mut hL, ?_, by omega, upd_same, ?_, hR.app ?_, ?_, ?_, ?_⟩
      · show (upd H4 L _) sp = _
        rw [upd_ne (fun z => hst.dk.some (by rw [z]; exact hL))]
        exact hst4
      · rw [encRs_app]
        refine ((hA.mono P4.keep).mono kp).app ?_
        show Ats _ [v4] (encRs [rw4])
        simp only [encRs]
        exact .cons (A4.mono kp) .nil
      · unfold RwsOk
        exact ⟨k4, by unfold RwsOk; exact True.intro⟩
      · rw [cntRs_app]
        have e5 : cntRs [rw4] = rw4.cnt := by simp [cntRs]
        omega
      · rw [marksRs_app, hM, dm_add f c m' m4 hm', ← e4]
        simp [marksRs]
      · rw [flatRs_app]
        refine hC.app ?_
        have e5 : flatRs [rw4] = rw4.flat := by simp [flatRs]
        rw [e5]
        exact h4
    · exact ifF (decide_eq_false h0) ⟨_, us, rws, r', m', rfl, Pa, hsta, hm', eL, hA, hR, hc, hM, hC⟩
  · rintro σ H' ⟨y, us, rws, r', m', rfl, Pa, hsta, hm', eL, hA, hR, hc, hM, hC⟩
    refine ⟨_, rfl, L, us, rfl, .inl ⟨SqL.of eL, fun tt ht => ?_⟩⟩
    exact q _ _ rws r' m' (Pa.same (same_upd ht)) (same_upd ht _ _ hsta) hm' (at_new ht hA) hR hc hM hC
/-- rows of n levels -/
theorem ok_gen (T : TxA mg) (hrange : mg "range" = none) (DR : Def K mg "_law_row" sLRow) (DS : Def K mg "_law_rows" sLRows) (CT : Call P w K mg base 1 "_law_take" spTake) (CE : Call P w K mg base 7 "_law_expression" (spEg 5)) (CC : Call P w K mg base 8 "_law_call" spLCall) : ∀ n : Nat, Call P w K mg base (2 * n + 9) "_law_rows" (spLRows n)
  | 0 => (call_none (ps := ["pool", "state", "names", "deep"]) DS (fun _ _ _ _ _ _ us hl => match us, hl with | [_, _, _, _], _ => rfl) fun vs H Q E h => by
      obtain ⟨p, sp, a, hd, i, r, c, f, kk, deep, hs, xs, _, _, _, _, _, _, _, _, _, hk, _⟩ := h
      omega).mono (by omega)
  | n + 1 => ok_lrows T hrange DS CT (by omega) (ok_lrow T DR CT CE CC (by omega) (ok_gen T hrange DR DS CT CE CC n))
end
end Cf


set_option Elab.async false
set_option linter.all false
set_option autoImplicit false
set_option maxRecDepth 100000
set_option maxHeartbeats 2000000
/-! _law_words_beside. -/
namespace Cf
open PySem PySem.Spec PyProof.Rows L2
/-- one sign a text -/
def chS (c : Nat) : Str := ⟨#[c]⟩
theorem joinL_ones : ∀ cs : List Nat, TL.joinL [] (cs.map fun c => TL.tl (chS c)) = cs
  | [] => rfl
  | [c] => rfl
  | c :: d :: r => by
    have ih := joinL_ones (d :: r)
    show TL.tl (chS c) ++ ([] ++ TL.joinL [] ((d :: r).map fun c => TL.tl (chS c))) = c :: d :: r
    rw [ih]
    rfl
theorem tl_empty : TL.tl ("" : Str) = [] := by decide +kernel
theorem join_ones (cs : List Nat) : TL.tl (Txt.join "" (cs.map chS)) = cs := by
  rw [TL.join_eq, TL.tl_join, tl_empty, List.map_map]
  exact joinL_ones cs
theorem ones_room {cs : List Nat} (h : cs.length ≤ 1000) : ((cs.map chS).map (·.length)).sum + (cs.map chS).length * ("" : Str).length ≤ 16777216 := by
  have e0 : ("" : Str).length = 0 := by decide +kernel
  have e1 : ∀ cs : List Nat, ((cs.map chS).map (·.length)).sum = cs.length := by
    intro cs
    induction cs with
    | nil => rfl
    | cons c cs ih =>
      simp only [List.map_cons, List.sum_cons, List.length_cons, ih]
      have : (chS c).length = 1 := rfl
      omega
  rw [e0, e1]
  omega
theorem small_at {n : Nat} (h : n < 26) : (TL.tl SMALL)[n]? = some (97 + n) := by
  rw [tl_small, List.getElem?_range']
  · simp
  · exact h
theorem inV_mem {x : Str} {xs : List Str} (h : x ∈ xs) : inV (.str x) (xs.map V.str) = true := by
  unfold inV
  rw [List.any_eq_true]
  refine ⟨.str x, List.mem_map_of_mem h, ?_⟩
  show (x == x) = true
  exact beq_self_eq_true x
section
variable {P : Program} {w : World} {K : PySem.W.Frag} {mg : Str → Option Value} {base : Heap}
def spBeside : Sp := fun vs H Q _ => ∃ (p m : Addr) (n k : Nat) (xs : List Str), vs = [.ref p, .ref m, .int n, .int k] ∧ PoolAt H p ∧ H m = some (.lst (xs.map V.str)) ∧ xs.Nodup ∧ (∀ x ∈ xs, Nm k x) ∧ n ≤ 100 ∧ 0 < k ∧ k ≤ 100 ∧ xs.length ≤ 100 ∧
  ∀ (H' : Hp) (l : Addr) (ys : List Str), Pg p H H' → H l = none → H' l = some (.lst (ys.map V.str)) → ys.Nodup → (∀ y ∈ ys, Nm k y) → xs.length ≤ ys.length → ys.length ≤ 200 → Q (.ref l) H'
abbrev sBeside : Stmt := top 50
theorem scBeside : FnScope ["pool", "menu", "many", "most", "found", "k", "letters", "j"] ["pool", "menu", "many", "most"] (defScope sBeside) := ⟨rfl, rfl, rfl, by decide +kernel, rfl, by decide +kernel, by decide +kernel⟩
theorem ok_beside (T : TxA mg) (hrange : mg "range" = none) (D : Def K mg "_law_words_beside" sBeside) (CT : Call P w K mg base 1 "_law_take" spTake) : Call P w K mg base 2 "_law_words_beside" spBeside := by
  refine call_mk D (fun _ _ _ _ _ _ us hl => match us, hl with | [_, _, _, _], _ => rfl) scBeside (fun vs H Q E h => ?_) fun f cdv A outer s H vs Q E hr h => ?_
  · obtain ⟨p, m, n, k, xs, rfl, _⟩ := h
    rfl
  obtain ⟨p, m, n, k, xs, rfl, hp, hm, hnd, hN, hn, hk0, hk, hx, q⟩ := h
  refine ⟨_, pss_cons (ps_set (i := 4) scBeside.nd rfl (.inl rfl) (pe_callTy call_list_of (by rfl) T.list (by decide +kernel) (pa_cons (pv 1) pa_nil)))
    (pss_cons (ps_for PassesOwn.never rfl (pi_range1 (by rfl) hrange (pa_cons (pv 2) pa_nil)) (pg_name (i := 5) scBeside.nd rfl (.inl rfl))
      (pss_cons (ps_setLc (i := 6) (own := [("j", 7)]) (g := gName 7) (tt := tYes) (by rfl) scBeside.nd rfl rfl (sw_true rfl rfl rfl (by decide +kernel)) (pi_range1 (by rfl) hrange (pa_cons (pe_op op_add pe_int (pe_cl CT hr (pa_cons (pv 0) (pa_cons (pv 3) pa_nil)))) pa_nil)) (blkOk_by (own := [("j", 7)]) (N := ["pool", "menu", "many", "most", "found", "k", "letters", "j"]) (sc := defScope sBeside) (by decide +kernel))
        (fun _ _ _ _ _ => pg_name (i := 7) scBeside.nd rfl (Or.inl rfl)) (fun _ _ _ _ _ => pts_nil) (fun _ _ _ _ _ => pe_ix ix_str pe_str (pe_cl CT hr (pa_cons (pv 0) (pa_cons pe_int pa_nil))) (fun _ _ => rfl)))
      (pss_one (ps_if (pt_cmpR op_notIn_seq (pe_join pe_str (pv 6)) (pv 4) (by rfl)) (pss_one (ps_expr (pe_bm PySem.F.plainAttrs_list PySem.F.slot_list_append PySem.F.type_list_append mt_append (pv 4) (pa_cons (pe_join pe_str (pv 6)) pa_nil)))) pss_nil))))
    (pss_one (ps_ret (pv 4)))), ?_⟩
  refine ⟨_, rfl, m, _, rfl, .inl (SqL.of hm), fun L nL => ?_⟩
  have s1 := same_upd (o := .lst (xs.map V.str)) nL
  have e1 : (upd H L (.lst (xs.map V.str))) L = some (.lst (xs.map V.str)) := upd_same
  generalize upd H L (.lst (xs.map V.str)) = H1 at s1 e1
  refine ⟨_, rfl, _, rfl, by omega, by omega, ?_⟩
  refine for_it (walk_range (lo := 0) (n := n)) (fun i σ H' => ∃ (u y z : Option V) (ys : List Str), σ = [some (.ref p), some (.ref m), some (.int n), some (.int k), some (.ref L), u, y, z] ∧ Pg p H H' ∧ H' L = some (.lst (ys.map V.str)) ∧ ys.Nodup ∧ (∀ y ∈ ys, Nm k y) ∧ xs.length ≤ ys.length ∧ ys.length ≤ xs.length + i)
    ⟨none, none, none, xs, rfl, hp.pg s1, e1, hnd, hN, Nat.le_refl _, by omega⟩ (fun _ _ _ _ _ => True.intro) ?_ ?_
  · rintro i x σ Ha Hb hi ⟨u, y, z, ys, rfl, g, eL, hd, hY, hl, hl2⟩ ⟨rfl, rfl⟩
    -- letters
    refine ⟨_, rfl, _, rfl, p, k, rfl, g.pool, by omega, by omega, fun H2 t g2 ht => ?_⟩
    refine ⟨_, _, rfl, rfl, _, rfl, by omega, by omega, fun M nM => ?_⟩
    have et : ((1 : Int) + (t : Nat)).toNat = t + 1 := by omega
    rw [et]
    have g02 := g.trans g2
    have eL2 := g2.strs eL
    have neM : L ≠ M := ne_of_none eL2 nM
    have nM0 := g02.free nM
    have sM := same_upd (o := .lst []) nM
    refine lc_it (walk_range (lo := 0) (n := t + 1)) (fun j H' => ∃ cs : List Nat, Pg p H H' ∧ H' L = some (.lst (ys.map V.str)) ∧ H' M = some (.lst ((cs.map chS).map V.str)) ∧ cs.length = j ∧ ∀ c ∈ cs, 97 ≤ c ∧ c ≤ 122)
      ⟨[], g02.same sM, sM _ _ eL2, upd_same, rfl, fun c hc => by cases hc⟩ (fun _ _ _ _ => True.intro) ?_ ?_
    · rintro j y2 Hc Hd hj ⟨cs, gc, eLc, eM, hcl, hcs⟩ ⟨rfl, rfl⟩
      refine ⟨rfl, _, rfl, p, 26, rfl, gc.pool, by decide, by decide, fun H3 c g3 hc => ?_⟩
      have hc' : c < 26 := by omega
      refine ⟨SMALL, _, _, rfl, rfl, sz (by decide +kernel), atI_nat (small_at hc'), ?_⟩
      refine ⟨(cs.map chS).map V.str, g3.strs eM, ?_, cs ++ [97 + c], (gc.trans g3).mut nM0, ?_, ?_, by rw [List.length_append, hcl]; rfl, fun d hd => ?_⟩
      · rw [List.length_map, List.length_map]
        exact szl (by omega)
      · rw [upd_ne neM]
        exact g3.strs eLc
      · rw [upd_same, List.map_append, List.map_append]
        rfl
      · rcases List.mem_append.mp hd with hd | hd
        · exact hcs d hd
        · have : d = 97 + c := by simpa using hd
          omega
    · rintro H3 ⟨cs, g3, eL3, eM, hcl, hcs⟩
      have hroom := ones_room (cs := cs) (by omega)
      have hword : Nm k (Txt.join "" (cs.map chS)) := by
        refine ⟨?_, ?_, ?_⟩
        · rw [TL.len_tl, join_ones]
          omega
        · rw [TL.len_tl, join_ones]
          omega
        · rw [join_ones]
          exact hcs
      refine ⟨⟨_, rfl⟩, _, rfl, "", M, cs.map chS, rfl, rfl, .inl (SqL.of eM), hroom, ?_⟩
      refine ⟨_, rfl, L, _, rfl, .inl (SqL.of eL3), rfl, flat_strs' _, _, rfl, ?_⟩
      cases hin : inV (V.str (Txt.join "" (cs.map chS))) (ys.map V.str) with
      | true => exact ifF rfl ⟨_, _, _, ys, rfl, g3, eL3, hd, hY, hl, by omega⟩
      | false =>
        have nin : Txt.join "" (cs.map chS) ∉ ys := fun z => by
          rw [inV_mem z] at hin
          cases hin
        refine ifT rfl ⟨_, rfl, .inl ⟨rfl, _, SqL.of eL3⟩, ?_⟩
        refine ⟨⟨_, rfl⟩, _, rfl, "", M, cs.map chS, rfl, rfl, .inl (SqL.of eM), hroom, ?_⟩
        refine ⟨L, _, _, rfl, rfl, eL3, ?_, ?_⟩
        · rw [List.length_map]
          exact szl (by omega)
        refine ⟨_, _, _, ys ++ [Txt.join "" (cs.map chS)], rfl, g3.mut nL, ?_, ?_, ?_, ?_, ?_⟩
        · rw [upd_same, List.map_append]
          rfl
        · rw [List.nodup_append]
          refine ⟨hd, by simp, ?_⟩
          intro a ha b hb e
          have hb' : b = Txt.join "" (cs.map chS) := by simpa using hb
          exact nin (hb' ▸ e ▸ ha)
        · intro y hy
          rcases List.mem_append.mp hy with hy | hy
          · exact hY y hy
          · have hb' : y = Txt.join "" (cs.map chS) := by simpa using hy
            rw [hb']
            exact hword
        · rw [List.length_append]
          omega
        · rw [List.length_append]
          simp only [List.length_singleton]
          omega
  · rintro σ H' ⟨u, y, z, ys, rfl, g, eL, hd, hY, hl, hl2⟩
    exact ⟨_, rfl, q H' L ys g nL eL hd hY hl (by omega)⟩
end
end Cf


set_option Elab.async false
set_option linter.all false
set_option autoImplicit false
set_option maxRecDepth 100000
set_option maxHeartbeats 4000000
/-! _law_book. -/
namespace Cf
open PySem PySem.Spec PyProof.Rows L2
/-! ### plain -/
theorem sub_len {α : Type} [DecidableEq α] : ∀ {l ps : List α}, l.Nodup → (∀ x ∈ l, x ∈ ps) → l.length ≤ ps.length
  | [], ps, _, _ => Nat.zero_le _
  | a :: l, ps, hn, h => by
    obtain ⟨h1, h2⟩ := List.nodup_cons.mp hn
    have ha := h a (List.mem_cons_self ..)
    have ih := sub_len (l := l) (ps := ps.erase a) h2 fun x hx => (List.mem_erase_of_ne (fun e : x = a => h1 (by rw [← e]; exact hx))).mpr (h x (List.mem_cons_of_mem _ hx))
    rw [List.length_erase_of_mem ha] at ih
    have : 0 < ps.length := List.length_pos_of_mem ha
    simp only [List.length_cons]
    omega
theorem filt_len {α : Type} (f : α → Bool) : ∀ l : List α, l.length = (l.filter f).length + (l.filter fun x => !f x).length
  | [] => rfl
  | a :: l => by
    have ih := filt_len f l
    cases h : f a <;> simp [h] <;> omega
theorem filt_room {α : Type} [DecidableEq α] {l ps : List α} {f : α → Bool} (hn : l.Nodup) (h : ∀ x, f x = false → x ∈ ps) : l.length ≤ (l.filter f).length + ps.length := by
  have e := filt_len f l
  have h2 := sub_len (l := l.filter fun x => !f x) (ps := ps) (hn.filter _) fun x hx => by
    have := (List.mem_filter.mp hx).2
    exact h x (by simpa using this)
  omega
/-- a word that is none of these -/
def keepW (ps : List Str) (x : Str) : Bool := !inV (.str x) (ps.map V.str)
theorem keepW_not {ps : List Str} {x : Str} (h : keepW ps x = false) : x ∈ ps := by
  by_cases hx : x ∈ ps
  · exact hx
  · unfold keepW at h
    rw [inV_strs hx] at h
    cases h
theorem perm_facts {xs ys zs : List Str} (pm : (ys ++ zs).Perm xs) (hn : xs.Nodup) : ys.Nodup ∧ ∀ y ∈ ys, y ∈ xs :=
  ⟨(List.nodup_append.mp (pm.nodup_iff.mpr hn)).1, fun y hy => pm.subset (List.mem_append_left _ hy)⟩
def menu0 : List Str := ["a", "b", "ab", "x", "xy", "abc", "abcd", "set", "end", "else", "give", "z"]
def deeds0 : List Str := ["f", "g", "fold", "gg", "deed", "end", "callfold", "h", "ab", "main"]
theorem menu0_nd : menu0.Nodup := by decide +kernel
theorem deeds0_nd : deeds0.Nodup := by decide +kernel
theorem menu0_nm : ∀ x ∈ menu0, Nm 4 x := by
  unfold Nm
  decide +kernel
theorem deeds0_nm : ∀ x ∈ deeds0, Nm 8 x := by
  unfold Nm
  decide +kernel
theorem merge_st (hd : Addr) (i r c f : Nat) : mergeK [] (stD hd i r c f) = stD hd i r c f := by
  simp [mergeK, stD, putK, k_heads_at, k_heads_rows, k_heads_calls, k_heads_first, k_at_rows, k_at_calls, k_at_first, k_rows_calls, k_rows_first, k_calls_first]
theorem HdsAt.nil {H : Hp} {hd : Addr} (e : H hd = some (.lst [])) : HdsAt H hd [] := ⟨[], e, rfl, fun i x ps h => by simp at h⟩
theorem HdsAt.app {H : Hp} {hd t pl : Addr} {hs : Hds} {vs : List V} {x : Str} {ps : List Str} (h : HdsAt H hd hs) (e : H hd = some (.lst vs)) (et : H t = some (.tup [.str x, .ref pl])) (ep : H pl = some (.lst (ps.map V.str))) (ne : pl ≠ hd) :
    HdsAt (upd H hd (.lst (vs ++ [.ref t]))) hd (hs ++ [(x, ps)]) := by
  obtain ⟨vs', e', hl, hv⟩ := h.ls
  obtain rfl : vs = vs' := by
    rw [e] at e'
    exact HO.lst.inj (Option.some.inj e')
  have nt : ∀ {t : Addr} {xs : List V}, H t = some (.tup xs) → t ≠ hd := fun et => ne_of et e fun z => nomatch z
  refine ⟨vs ++ [.ref t], upd_same, by rw [List.length_append, List.length_append, hl]; rfl, fun i y qs hi => ?_⟩
  by_cases hlt : i < hs.length
  · rw [List.getElem?_append_left hlt] at hi
    obtain ⟨t', pl', h1, h2, h3⟩ := hv i y qs hi
    refine ⟨t', pl', ?_, ?_, ?_⟩
    · rw [List.getElem?_append_left (by omega)]
      exact h1
    · rw [upd_ne (nt h2)]
      exact h2
    · rw [upd_ne (ne_of h3 e (fun z => by
        injection z with z
        rw [← z, List.getElem?_map] at h1
        cases hq : qs[i]? with
        | none =>
          rw [hq] at h1
          cases h1
        | some q =>
          rw [hq] at h1
          cases h1))]
      exact h3
  · have hi' := hi
    rw [List.getElem?_append_right (by omega)] at hi'
    have hz : i - hs.length = 0 := by
      have := (List.getElem?_eq_some_iff.mp hi').1
      simp only [List.length_singleton] at this
      omega
    rw [hz] at hi'
    obtain ⟨rfl, rfl⟩ := Prod.mk.inj (Option.some.inj hi')
    refine ⟨t, pl, ?_, ?_, ?_⟩
    · rw [List.getElem?_append_right (by omega), hl, hz]
      rfl
    · rw [upd_ne (nt et)]
      exact et
    · rw [upd_ne ne]
      exact ep
theorem Pd.since {p sp : Addr} {H0 H H' : Hp} (s : Same H0 H) (a : Pd p sp H H') (h : H0 p = none) (h2 : H0 sp = none) : Same H0 H' := fun b o e =>
  a.fr _ _ (s _ _ e) fun z => by
    simp only [List.mem_cons, List.not_mem_nil, or_false] at z
    rcases z with z | z
    · rw [z, h] at e
      cases e
    · rw [z, h2] at e
      cases e
theorem Pd.at2 {p sp : Addr} {H H' : Hp} (a : Pd p sp H H') {q : Addr} {o : HO} (e : H q = some o) (h : q ≠ p) (h2 : q ≠ sp) : H' q = some o := by
  refine a.fr _ _ e fun z => ?_
  simp only [List.mem_cons, List.not_mem_nil, or_false] at z
  rcases z with z | z
  · exact h z
  · exact h2 z
theorem Pg.at2 {p : Addr} {H H' : Hp} (a : Pg p H H') {q : Addr} {o : HO} (e : H q = some o) (h : q ≠ p) : H' q = some o := by
  refine a.fr _ _ e fun z => h (by simpa using z)
/-- a drawn head -/
def HdGood (h : Str × List Str) : Prop := Nm 8 h.1 ∧ h.2.length ≤ 4 ∧ (∀ p ∈ h.2, Nm 4 p) ∧ h.2.Nodup
/-- the deeds so far -/
structure DdsOk (hs : Hds) (f m : Nat) (ds : List Dd) : Prop where
  heads : ds.map (fun d => (d.name, d.params)) = hs.take ds.length
  dds : ∀ d ∈ ds, DdOk d ∧ CallsHs hs (flatRs d.rows)
  marks : marksB ds = dm f 10 m
  few : m ≤ 10
theorem book_ok {hs : Hds} {f m : Nat} {ds : List Dd} (h : DdsOk hs f m ds) (hl : ds.length = hs.length) (h8 : hs.length ≤ 8) (hn : (hs.map Prod.fst).Nodup) (hf : f < 100) : BkOk ds := by
  have e : ds.map (fun d => (d.name, d.params)) = hs := by
    rw [h.heads, hl, List.take_length]
  refine ⟨by omega, fun d hd => (h.dds d hd).1, ?_, ?_, ?_, ?_⟩
  · rw [← e, List.map_map] at hn
    exact hn
  · intro d hd x c as m' hc
    obtain ⟨ps, hm, hl2⟩ := (h.dds d hd).2 x c as m' hc
    rw [← e] at hm
    obtain ⟨t, ht, et⟩ := List.mem_map.mp hm
    obtain ⟨rfl, rfl⟩ := Prod.mk.inj et
    exact ⟨t, ht, rfl, hl2.symm⟩
  · rw [h.marks]
    exact dm_nodup hf h.few
  · rw [h.marks]
    exact Nat.le_trans (dm_len f 10 m) h.few
end Cf


set_option Elab.async false
set_option linter.all false
set_option autoImplicit false
set_option maxRecDepth 100000
set_option maxHeartbeats 4000000
/-! _law_book, walked. -/
namespace Cf
open PySem PySem.Spec PyProof.Rows L2
section
variable {P : Program} {w : World} {K : PySem.W.Frag} {mg : Str → Option Value} {base : Heap}
def spBook : Sp := fun vs H Q _ => ∃ (c : Addr) (xs : List Int), vs = [.ref c, .int 5] ∧ H c = some (.lst (xs.map V.int)) ∧ xs.length ≤ 1000 ∧
  ∀ (H' : Hp) (v : V) (B : Bk), Same H H' → At H' v (encB B) → BkOk B → B ≠ [] → Q v H'
abbrev sBook : Stmt := top 51
theorem scBook : FnScope ["cells", "most", "pool", "menu", "deeds", "heads", "many", "name", "state", "found", "k", "params", "names", "rows", "word"] ["cells", "most"] (defScope sBook) := ⟨rfl, rfl, rfl, by decide +kernel, rfl, by decide +kernel, by decide +kernel⟩
/-- the heap without L -/
def rmH (H : Hp) (L : Addr) : Hp := fun a => if a = L then none else H a
theorem rmH_get {H : Hp} {L q : Addr} {o : HO} (h : rmH H L q = some o) : q ≠ L ∧ H q = some o := by
  unfold rmH at h
  by_cases e : q = L
  · rw [if_pos e] at h
    cases h
  · rw [if_neg e] at h
    exact ⟨e, h⟩
theorem rmH_mk {H : Hp} {L q : Addr} {o : HO} (h : q ≠ L) (e : H q = some o) : rmH H L q = some o := by
  unfold rmH
  rw [if_neg h]
  exact e
theorem HdsAt.rm {H : Hp} {L hd : Addr} {hs : Hds} (h : HdsAt (rmH H L) hd hs) : HdsAt H hd hs := h.of fun q o e _ _ => (rmH_get e).2
theorem ok_book (T : TxA mg) (henum : mg "enumerate" = none) (D : Def K mg "_law_book" sBook) (CT : Call P w K mg base 1 "_law_take" spTake) (CP : Call P w K mg base 1 "_law_pool" spPool) (CS : Call P w K mg base 2 "_law_some" spSome) (CB : Call P w K mg base 2 "_law_words_beside" spBeside)
    (CE : Call P w K mg base 7 "_law_expression" (spEg 5)) (CR : Call P w K mg base 15 "_law_rows" (spLRows 3)) : Call P w K mg base 16 "_law_book" spBook := by
  refine call_mk D (fun _ _ _ _ _ _ us hl => match us, hl with | [_, _], _ => rfl) scBook (fun vs H Q E h => ?_) fun f0 cdv A outer s H0 vs Q E hr h => ?_
  · obtain ⟨c, xs, rfl, _⟩ := h
    rfl
  obtain ⟨c, xs, rfl, hc, hx, q⟩ := h
  have hu : A.units + 3 + 1 < cLine := hu_of hr
  refine ⟨_, pss_cons (ps_set (i := 2) scBook.nd rfl (.inl rfl) (pe_cl CP hr (pa_cons (pv 0) (pa_cons pe_int pa_nil))))
    (pss_cons (ps_set (i := 3) scBook.nd rfl (.inl rfl) (pe_lst (pa_cons pe_str (pa_cons pe_str (pa_cons pe_str (pa_cons pe_str (pa_cons pe_str (pa_cons pe_str (pa_cons pe_str (pa_cons pe_str (pa_cons pe_str (pa_cons pe_str (pa_cons pe_str (pa_cons pe_str pa_nil))))))))))))))
    (pss_cons (ps_set (i := 4) scBook.nd rfl (.inl rfl) (pe_lst (pa_cons pe_str (pa_cons pe_str (pa_cons pe_str (pa_cons pe_str (pa_cons pe_str (pa_cons pe_str (pa_cons pe_str (pa_cons pe_str (pa_cons pe_str (pa_cons pe_str pa_nil))))))))))))
    (pss_cons (ps_set (i := 3) scBook.nd rfl (.inl rfl) (pe_cl CB hr (pa_cons (pv 2) (pa_cons (pv 3) (pa_cons pe_int (pa_cons pe_int pa_nil))))))
    (pss_cons (ps_set (i := 4) scBook.nd rfl (.inl rfl) (pe_cl CB hr (pa_cons (pv 2) (pa_cons (pv 4) (pa_cons pe_int (pa_cons pe_int pa_nil))))))
    (pss_cons (ps_set (i := 5) scBook.nd rfl (.inl rfl) (pe_lst pa_nil))
    (pss_cons (ps_set (i := 6) scBook.nd rfl (.inl rfl) (pe_op op_add pe_int (pe_cl CT hr (pa_cons (pv 2) (pa_cons (pe_ix ix_list (pe_lst (pa_cons (pv 1) (pa_cons (pv 1) (pa_cons (pv 1) (pa_cons pe_int pa_nil))))) (pe_cl CT hr (pa_cons (pv 2) (pa_cons pe_int pa_nil))) (fun _ _ => rfl)) pa_nil)))))
    (pss_cons (ps_for PassesOwn.never rfl (pi_list (pe_cl CS hr (pa_cons (pv 2) (pa_cons (pv 4) (pa_cons (pv 6) pa_nil))))) (pg_name (i := 7) scBook.nd rfl (.inl rfl))
      (pss_one (ps_expr (pe_bm PySem.F.plainAttrs_list PySem.F.slot_list_append PySem.F.type_list_append mt_append (pv 5) (pa_cons (pe_tup (pa_cons (pv 7) (pa_cons (pe_cl CS hr (pa_cons (pv 2) (pa_cons (pv 3) (pa_cons (pe_cl CT hr (pa_cons (pv 2) (pa_cons pe_int pa_nil))) pa_nil)))) pa_nil))) pa_nil)))))
    (pss_cons (ps_set (i := 8) scBook.nd rfl (.inl rfl) (pe_disp (pps_cons pe_str (pv 5) (pps_cons pe_str pe_int (pps_cons pe_str pe_int (pps_cons pe_str pe_int (pps_cons pe_str (pe_cl CT hr (pa_cons (pv 2) (pa_cons pe_int pa_nil))) pps_nil))))) (by rfl) (by rfl) (fun z => by cases z) (by decide)))
    (pss_cons (ps_set (i := 9) scBook.nd rfl (.inl rfl) (pe_lst pa_nil))
    (pss_cons (ps_for PassesOwn.never rfl (pi_enum (by rfl) henum (pa_cons (pv 5) pa_nil)) (pg_tup (by rfl) (pgs_cons (pg_name (i := 10) scBook.nd rfl (.inl rfl)) (pgs_cons (pg_tup (by rfl) (pgs_cons (pg_name (i := 7) scBook.nd rfl (.inl rfl)) (pgs_cons (pg_name (i := 11) scBook.nd rfl (.inr rfl)) pgs_nil))) pgs_nil)))
      (pss_cons (ps_set (i := 2) scBook.nd rfl (.inl rfl) (pe_cl CP hr (pa_cons (pv 0) (pa_cons (pe_op op_add pe_int (pv 10)) pa_nil))))
      (pss_cons (ps_set (i := 12) scBook.nd rfl (.inl rfl) (pe_op op_cat (pv 11) (pe_cl CS hr (pa_cons (pv 2) (pa_cons
        (pe_lc (own := [("word", 14)]) (g := gName 14) (tt := tTest (tOp (rIn K true) (tVar 14) (tVar 11))) (by rfl) scBook.nd (pi_list (pv 3)) (blkOk_by (own := [("word", 14)]) (N := ["cells", "most", "pool", "menu", "deeds", "heads", "many", "name", "state", "found", "k", "params", "names", "rows", "word"]) (sc := defScope sBook) (by decide +kernel)) (fun _ _ _ _ _ => pg_name (i := 14) scBook.nd rfl (Or.inl rfl)) (fun _ _ _ _ _ => pts_one (pt_cmpR op_notIn_seq (pv 14) (pv 11) (by rfl)))
          (fun _ _ _ _ _ => pv 14)) (pa_cons (pe_op op_add pe_int (pe_cl CT hr (pa_cons (pv 2) (pa_cons pe_int pa_nil)))) pa_nil))))))
      (pss_cons (ps_dput hu (pv 8) pe_str (pv 10) rfl)
      (pss_cons (ps_dput hu (pv 8) pe_str pe_int rfl)
      (pss_cons (ps_set (i := 13) scBook.nd rfl (.inl rfl) (pe_cl CR hr (pa_cons (pv 2) (pa_cons (pv 8) (pa_cons (pv 12) (pa_cons pe_int pa_nil))))))
      (pss_one (ps_expr (pe_bm PySem.F.plainAttrs_list PySem.F.slot_list_append PySem.F.type_list_append mt_append (pv 9) (pa_cons (pe_tup (pa_cons (pv 7) (pa_cons (pe_callTy call_tuple_of (by rfl) T.tuple (by decide +kernel) (pa_cons (pv 11) pa_nil)) (pa_cons (pv 13) (pa_cons (pe_cl CE hr (pa_cons (pv 2) (pa_cons (pv 12) (pa_cons pe_int pa_nil)))) pa_nil))))) pa_nil))))))))))
    (pss_one (ps_ret (pe_callTy call_tuple_of (by rfl) T.tuple (by decide +kernel) (pa_cons (pv 9) pa_nil)))))))))))))), ?_⟩
  -- pool = _law_pool(cells, 0)
  refine ⟨_, rfl, c, xs, 0, rfl, hc, hx, by decide, fun H1 p s1 np hp => ?_⟩
  -- the menus
  refine ⟨szn 12, fun l1 n1 => ⟨szn 10, fun l2 n2 => ?_⟩⟩
  have e1 : (upd (upd H1 l1 (.lst (menu0.map V.str))) l2 (.lst (deeds0.map V.str))) l1 = some (.lst (menu0.map V.str)) := same_upd n2 _ _ upd_same
  have e2 : (upd (upd H1 l1 (.lst (menu0.map V.str))) l2 (.lst (deeds0.map V.str))) l2 = some (.lst (deeds0.map V.str)) := upd_same
  have s2 : Same H1 (upd (upd H1 l1 (.lst (menu0.map V.str))) l2 (.lst (deeds0.map V.str))) := (same_upd n1).trans (same_upd n2)
  refine ⟨_, rfl, _, rfl, p, l1, 12, 4, menu0, rfl, hp.same s2, e1, menu0_nd, menu0_nm, by decide, by decide, by decide, by decide, fun H3 ml menu g3 _ em hmnd hmnm hml hml2 => ?_⟩
  have e23 := g3.strs e2
  refine ⟨_, rfl, _, rfl, p, l2, 10, 8, deeds0, rfl, g3.pool, e23, deeds0_nd, deeds0_nm, by decide, by decide, by decide, by decide, fun H4 dl deeds g4 _ ed hdnd hdnm hdl hdl2 => ?_⟩
  have em4 := g4.strs em
  have g14 : Pg p H1 H4 := ((hp.pg s2).trans g3).trans g4
  have S4 : Same H0 H4 := g14.since s1 np
  -- heads = []
  refine ⟨szn 0, fun hd nhd => ?_⟩
  have nhd0 := same_free S4 nhd
  have s5 := same_upd (o := .lst []) nhd
  have e5 : (upd H4 hd (.lst [])) hd = some (.lst []) := upd_same
  have em5 := s5 _ _ em4
  have ed5 := s5 _ _ ed
  have p5 := g4.pool.same s5
  have nep : p ≠ hd := fun z => g4.pool.some (by rw [z]; exact nhd)
  have nem : ml ≠ hd := ne_of_none em4 nhd
  have S5 : Same H0 (upd H4 hd (.lst [])) := S4.trans s5
  generalize upd H4 hd (.lst []) = H5 at s5 e5 em5 ed5 p5 S5
  -- many
  refine ⟨_, rfl, _, rfl, _, rfl, _, rfl, szn 4, fun lm nlm => ?_⟩
  have s6 := same_upd (o := .lst [V.int 5, V.int 5, V.int 5, V.int 8]) nlm
  have e6 : (upd H5 lm (.lst [V.int 5, V.int 5, V.int 5, V.int 8])) lm = some (.lst [V.int 5, V.int 5, V.int 5, V.int 8]) := upd_same
  refine ⟨_, rfl, p, 4, rfl, p5.same s6, by decide, by decide, fun H7 n7 g7 hn7 => ?_⟩
  have e7 := g7.at e6 (fun _ _ z => by injection z with z; cases z)
  have hm : ∃ m : Int, ([V.int 5, V.int 5, V.int 5, V.int 8] : List V)[n7]? = some (.int m) ∧ 0 < m ∧ m ≤ 8 := by
    match n7, hn7 with
    | 0, _ => exact ⟨5, rfl, by decide, by decide⟩
    | 1, _ => exact ⟨5, rfl, by decide, by decide⟩
    | 2, _ => exact ⟨5, rfl, by decide, by decide⟩
    | 3, _ => exact ⟨8, rfl, by decide, by decide⟩
    | n + 4, h => exact absurd h (by omega)
  obtain ⟨m, hm, m1, m2⟩ := hm
  refine ⟨lm, _, _, _, rfl, rfl, SqL.of e7, atI_nat hm, p, m, rfl, g7.pool, m1, by omega, fun H8 n8 g8 hn8 => ?_⟩
  have emany : (1 : Int) + ((n8 : Nat) : Int) = ((n8 + 1 : Nat) : Int) := by omega
  refine ⟨_, _, rfl, rfl, ?_⟩
  have g58 : Pg p H5 H8 := ((p5.pg s6).trans g7).trans g8
  -- for name in _law_some(pool, deeds, many)
  have hd0 : deeds0.length = 10 := by decide +kernel
  have hm0 : menu0.length = 12 := by decide +kernel
  refine ⟨_, rfl, _, rfl, _, rfl, p, dl, n8 + 1, deeds, congrArg (fun z => [V.ref p, V.ref dl, V.int z]) emany, g8.pool, g58.strs ed5, by omega, by omega, fun H9 nl ns zs g9 nnl enl hnsl pm => ?_⟩
  obtain ⟨hnsnd, hnssub⟩ := perm_facts pm hdnd
  have g59 := g58.trans g9
  have S9 : Same H0 H9 := g59.since S5 np
  have ehd9 : H9 hd = some (.lst []) := g59.at2 e5 nep.symm
  have nel : nl ≠ hd := fun z => by
    have : H8 hd = some (.lst []) := g58.at2 e5 nep.symm
    rw [z, this] at nnl
    cases nnl
  refine ⟨nl, rfl, ⟨_, SqL.of enl⟩, ?_⟩
  refine for_it (walk_list (K := K) (a := nl) (xs := ns.map V.str)) (fun i σ H' => ∃ (y : Option V) (hs : Hds), σ = [some (.ref c), some (.int 5), some (.ref p), some (.ref ml), some (.ref dl), some (.ref hd), some (.int ((1 : Int) + ((n8 : Nat) : Int))), y, none, none, none, none, none, none, none] ∧ Same H0 H' ∧ PoolAt H' p ∧ H' ml = some (.lst (menu.map V.str)) ∧ H' nl = some (.lst (ns.map V.str)) ∧
      HdsAt H' hd hs ∧ hs.map Prod.fst = ns.take i ∧ hs.length = i ∧ ∀ h ∈ hs, HdGood h)
    ⟨none, [], rfl, S9, g9.pool, g59.strs em5, enl, HdsAt.nil ehd9, rfl, rfl, fun h hh => by cases hh⟩ (fun i σ H' _ h => by
      obtain ⟨_, _, _, _, _, _, h, _⟩ := h
      exact SqL.of h) ?_ ?_
  · rintro i x σ Ha Hb hi ⟨y, hs, rfl, Sa, pa, ema, ela, hH, hfst, hlen, hgood⟩ ⟨rfl, hx⟩
    rw [List.length_map] at hi
    rw [List.getElem?_map, List.getElem?_eq_getElem hi] at hx
    obtain rfl : V.str ns[i] = x := Option.some.inj hx
    obtain ⟨vs, evs, hlv, _⟩ := id hH.ls
    refine ⟨_, rfl, .inl ⟨rfl, _, SqL.of evs⟩, ?_⟩
    refine ⟨_, rfl, _, rfl, _, rfl, _, rfl, p, 5, rfl, pa, by decide, by decide, fun Hc t gc ht => ?_⟩
    refine ⟨p, ml, t, menu, rfl, gc.pool, gc.strs ema, by omega, by omega, fun Hd pl ps zs2 gd npl epl hpsl pm2 => ?_⟩
    obtain ⟨hpnd, hpsub⟩ := perm_facts pm2 hmnd
    have gbd := gc.trans gd
    refine ⟨szn 2, fun tt ntt => ?_⟩
    have st := same_upd (o := .tup [V.str ns[i], V.ref pl]) ntt
    have ett : (upd Hd tt (.tup [V.str ns[i], V.ref pl])) tt = some (.tup [V.str ns[i], V.ref pl]) := upd_same
    have hH2 := (hH.pg gbd).same st
    have epl2 := st _ _ epl
    have Se : Same H0 (upd Hd tt (.tup [V.str ns[i], V.ref pl])) := (gbd.since Sa np).trans st
    have pe := gbd.pool.same st
    have eme := st _ _ (gbd.strs ema)
    have ele := st _ _ (gbd.strs ela)
    have evc : Hc hd = some (.lst vs) := gc.at2 evs nep.symm
    have evs2 := st _ _ (gd.at2 evc nep.symm)
    have nph : pl ≠ hd := fun z => by
      rw [z, evc] at npl
      cases npl
    generalize upd Hd tt (.tup [V.str ns[i], V.ref pl]) = He at st ett hH2 epl2 Se pe eme ele evs2
    refine ⟨hd, vs, _, rfl, rfl, evs2, by rw [hlv, hlen]; exact szl (by omega), ?_⟩
    refine ⟨_, hs ++ [(ns[i], ps)], rfl, Se.mut nhd0, ?_, ?_, ?_, hH2.app evs2 ett epl2 nph, ?_, ?_, ?_⟩
    · obtain ⟨x1, y1, h1, h2⟩ := pe
      refine ⟨x1, y1, ?_, h2⟩
      rw [upd_ne nep]
      exact h1
    · rw [upd_ne nem]
      exact eme
    · rw [upd_ne nel]
      exact ele
    · rw [List.map_append, hfst, List.take_add_one, List.getElem?_eq_getElem hi]
      rfl
    · rw [List.length_append, hlen]
      rfl
    · intro h hh
      rcases List.mem_append.mp hh with hh | hh
      · exact hgood h hh
      · have e : h = (ns[i], ps) := by simpa using hh
        rw [e]
        exact ⟨hdnm _ (hnssub _ (List.getElem_mem hi)), (by omega : ps.length ≤ 4), fun q hq => hmnm _ (hpsub _ hq), hpnd⟩
  rintro σ H10 ⟨y, hs, rfl, S10, p10, em10, _, hH10, hfst, hlen, hgood⟩
  rw [List.length_map] at hfst hlen
  rw [List.take_length] at hfst
  have hns : ns.length = n8 + 1 := hnsl
  have hO : HdsOk hs := ⟨fun z => by rw [z] at hlen; simp at hlen; omega, by omega, fun x ps hh => ⟨(hgood _ hh).1, (hgood _ hh).2.1⟩⟩
  -- state = {..}
  intro sp nsp
  have nsp0 := same_free S10 nsp
  have sa := same_upd (o := .dK []) nsp
  have ea : (upd H10 sp (.dK [])) sp = some (.dK []) := upd_same
  obtain ⟨vs, evs, hlv, _⟩ := id hH10.ls
  refine ⟨_, rfl, _, rfl, p, 100, rfl, p10.same sa, by decide, by decide, fun H11 f g11 hf => ?_⟩
  have e11 : H11 sp = some (.dK []) := g11.at ea fun _ _ z => nomatch z
  refine ⟨e11, stD hd 0 20 10 f, rfl, by show 5 ≤ 15; decide, ?_⟩
  have S11 : Same H0 H11 := g11.since (S10.trans sa) np
  have S12 : Same H0 (upd H11 sp (.dK (mergeK [] (stD hd 0 20 10 f)))) := S11.mut nsp0
  have hst12 : StAt (upd H11 sp (.dK (mergeK [] (stD hd 0 20 10 f)))) sp hd 0 20 10 f := by
    show _ = _
    rw [upd_same, merge_st]
  have nesp : ∀ {q : Addr} {o : HO}, H11 q = some o → (∀ kvs, o ≠ .dK kvs) → q ≠ sp := fun e h => ne_of e e11 (h _)
  have hH12 : HdsAt (upd H11 sp (.dK (mergeK [] (stD hd 0 20 10 f)))) hd hs := ((hH10.same sa).pg g11).of fun q o e _ h2 => by
    rw [upd_ne (nesp e h2)]
    exact e
  have em11 : H11 ml = some (.lst (menu.map V.str)) := g11.strs (sa _ _ em10)
  have em12 : (upd H11 sp (.dK (mergeK [] (stD hd 0 20 10 f)))) ml = some (.lst (menu.map V.str)) := by
    rw [upd_ne (nesp em11 fun _ z => nomatch z)]
    exact em11
  have evs11 : H11 hd = some (.lst vs) := g11.at2 (sa _ _ evs) nep.symm
  have evs12 : (upd H11 sp (.dK (mergeK [] (stD hd 0 20 10 f)))) hd = some (.lst vs) := by
    rw [upd_ne (nesp evs11 fun _ z => nomatch z)]
    exact evs11
  generalize upd H11 sp (.dK (mergeK [] (stD hd 0 20 10 f))) = H12 at S12 hst12 hH12 em12 evs12
  -- found = []
  refine ⟨szn 0, fun L nL => ?_⟩
  have nL0 := same_free S12 nL
  have sL := same_upd (o := .lst []) nL
  have eL : (upd H12 L (.lst [])) L = some (.lst []) := upd_same
  have neL : hd ≠ L := ne_of_none evs12 nL
  have nemL : ml ≠ L := ne_of_none em12 nL
  have nesL : sp ≠ L := ne_of_none hst12 nL
  have S13 := S12.trans sL
  have hst13 : StAt (upd H12 L (.lst [])) sp hd 0 20 10 f := sL _ _ hst12
  have hH13 := hH12.same sL
  have em13 := sL _ _ em12
  have evs13 := sL _ _ evs12
  have hk13 : ∀ q o, H12 q = some o → (upd H12 L (.lst [])) q = some o := fun q o e => sL _ _ e
  generalize upd H12 L (.lst []) = H13 at eL S13 hst13 hH13 em13 evs13 hk13
  refine ⟨_, rfl, hd, vs, rfl, SqL.of evs13, ?_⟩
  refine for_it (walk_enum (K := K) (a := hd) (xs := vs)) (fun i σ H' => ∃ (u2 u7 u10 u11 u12 u13 : Option V) (us : List V) (ds : List Dd) (m i0 r0 : Nat), σ = [some (.ref c), some (.int 5), u2, some (.ref ml), some (.ref dl), some (.ref hd), some (.int ((1 : Int) + ((n8 : Nat) : Int))), u7, some (.ref sp), some (.ref L), u10, u11, u12, u13, none] ∧ Same H0 H' ∧
      StAt H' sp hd i0 r0 (10 - m) f ∧ HdsAt (rmH H' L) hd hs ∧ H' hd = some (.lst vs) ∧ H' ml = some (.lst (menu.map V.str)) ∧ H' L = some (.lst us) ∧ Ats H' us (ds.map Dd.enc) ∧ ds.length = i ∧ DdsOk hs f m ds)
    ⟨_, _, none, none, none, none, [], [], 0, 0, 20, rfl, S13, hst13, hH12.of (fun q o e _ _ => rmH_mk (ne_of_none e nL) (hk13 q o e)), evs13, em13, eL, .nil, rfl, ⟨rfl, fun d hd => (by cases hd), by rw [dm_zero]; rfl, by decide⟩⟩ (fun i σ H' _ h => by
      obtain ⟨_, _, _, _, _, _, _, _, _, _, _, _, _, _, _, h, _⟩ := h
      exact SqL.of h) ?_ ?_
  · rintro i x σ Ha Hb hi ⟨u2, u7, u10, u11, u12, u13, us, ds, m, i0, r0, rfl, Sa, hsta, hHa, evsa, ema, eLa, hA, hdl', hds⟩ ⟨t0, x1, y1, rfl, nt0, rfl, g1, g2⟩
    obtain rfl : V.int (i : Nat) = x1 := Option.some.inj g1
    have g3 : vs[i]? = some y1 := g2
    have hi2 : i < hs.length := by omega
    obtain ⟨nm, ps, hhi⟩ : ∃ nm ps, hs[i]? = some (nm, ps) := ⟨hs[i].1, hs[i].2, by rw [List.getElem?_eq_getElem hi2]⟩
    obtain ⟨hnm, hp4, hpnm, hpnd⟩ := hgood _ (List.mem_of_getElem? hhi)
    replace hp4 : ps.length ≤ 4 := hp4
    have st0 := same_upd (o := .tup [V.int (i : Nat), y1]) nt0
    have et0 : (upd Ha t0 (.tup [V.int (i : Nat), y1])) t0 = some (.tup [V.int (i : Nat), y1]) := upd_same
    have Sb := Sa.trans st0
    have hstb : StAt (upd Ha t0 (.tup [V.int (i : Nat), y1])) sp hd i0 r0 (10 - m) f := st0 _ _ hsta
    have hHb := hHa.rm.same st0
    have hkb : ∀ q o, Ha q = some o → (upd Ha t0 (.tup [V.int (i : Nat), y1])) q = some o := fun q o e => st0 _ _ e
    have evsb := st0 _ _ evsa
    have emb := st0 _ _ ema
    have eLb := st0 _ _ eLa
    have hAb := hA.mono st0.keep
    generalize upd Ha t0 (.tup [V.int (i : Nat), y1]) = Hb at st0 et0 Sb hstb hHb evsb emb eLb hAb hkb
    obtain ⟨vs', e', _, hv⟩ := id hHb.ls
    obtain rfl : vs = vs' := by
      rw [evsb] at e'
      exact HO.lst.inj (Option.some.inj e')
    obtain ⟨tt, pl, hvi, ett, epl⟩ := hv i nm ps hhi
    obtain rfl : y1 = .ref tt := by
      rw [g3] at hvi
      exact Option.some.inj hvi
    refine ⟨t0, _, rfl, SqT.of et0, rfl, _, _, rfl, _, _, rfl, tt, _, rfl, SqT.of ett, rfl, _, _, rfl, _, _, rfl, rfl, rfl, ?_⟩
    -- pool = _law_pool(cells, 1 + k)
    have ek : (1 : Int) + ((i : Nat) : Int) = ((i + 1 : Nat) : Int) := by omega
    refine ⟨_, rfl, _, rfl, _, _, rfl, rfl, c, xs, i + 1, congrArg (fun z => [V.ref c, V.int z]) ek, Sb _ _ hc, hx, by omega, fun Hc p2 sc np2 hp2 => ?_⟩
    have np20 := same_free Sb np2
    have Sc := Sb.trans sc
    have neLp : L ≠ p2 := ne_of_none eLb np2
    have nehp : hd ≠ p2 := ne_of_none evsb np2
    have neLs : L ≠ sp := nesL.symm
    have nehs : hd ≠ sp := ne_of evsb hstb fun z => nomatch z
    have hstc : StAt Hc sp hd i0 r0 (10 - m) f := sc _ _ hstb
    have emc := sc _ _ emb
    have eplc := sc _ _ epl
    -- names = params + _law_some(..)
    refine ⟨_, rfl, _, rfl, _, rfl, ml, rfl, ⟨_, SqL.of emc⟩, fun D nD => ?_⟩
    have sD := same_upd (o := .lst []) nD
    refine lc_it (walk_list (xs := menu.map V.str)) (fun j H' => Same Hc H' ∧ H' D = some (.lst (((menu.take j).filter (keepW ps)).map V.str))) ⟨sD, upd_same⟩ (fun j H' _ h => SqL.of (h.1 _ _ emc)) ?_ ?_
    · rintro j y2 He Hf hj ⟨se, eD⟩ ⟨rfl, hy⟩
      rw [List.length_map] at hj
      rw [List.getElem?_map, List.getElem?_eq_getElem hj] at hy
      obtain rfl : V.str menu[j] = y2 := Option.some.inj hy
      have etk : menu.take (j + 1) = menu.take j ++ [menu[j]] := by
        rw [List.take_add_one, List.getElem?_eq_getElem hj]
        rfl
      refine ⟨rfl, _, rfl, _, rfl, pl, _, rfl, .inl (SqL.of (se _ _ eplc)), rfl, flat_strs' _, _, rfl, ?_⟩
      cases hb : keepW ps menu[j] with
      | true =>
        refine ifT hb ⟨_, rfl, _, eD, ?_, se.mut nD, ?_⟩
        · rw [List.length_map]
          have h1 := List.length_filter_le (keepW ps) (menu.take j)
          have h2 : (menu.take j).length ≤ menu.length := by rw [List.length_take]; omega
          exact szl (by omega)
        · rw [upd_same, etk, List.filter_append, List.map_append]
          simp [hb]
      | false =>
        refine ifF hb ⟨se, ?_⟩
        rw [eD, etk, List.filter_append]
        simp [hb]
    rintro He ⟨se, eD⟩
    rw [List.length_map, List.take_length] at eD
    have hroom := filt_room (l := menu) (ps := ps) (f := keepW ps) hmnd fun x hx => keepW_not hx
    have hfl := List.length_filter_le (keepW ps) menu
    have pe := hp2.same se
    refine ⟨_, rfl, p2, 3, rfl, pe, by decide, by decide, fun H6 t g6 ht => ⟨_, _, rfl, rfl, ?_⟩⟩
    have et1 : (1 : Int) + ((t : Nat) : Int) = ((t + 1 : Nat) : Int) := by omega
    have hm12 : 12 ≤ menu.length := by omega
    refine ⟨p2, D, t + 1, menu.filter (keepW ps), congrArg (fun z => [V.ref p2, V.ref D, V.int z]) et1, g6.pool, g6.strs eD, by omega, by omega, fun H7 l7 ys zs g7 nl7 el7 hys pm => ?_⟩
    have g67 : Pg p2 Hc H7 := ((hp2.pg se).trans g6).trans g7
    have epl7 := g67.strs eplc
    obtain ⟨_, hysub⟩ := perm_facts pm (hmnd.filter _)
    refine ⟨pl, l7, _, _, rfl, rfl, epl7, el7, by rw [List.length_map, List.length_map]; exact sz (by omega), fun nn nnn => ?_⟩
    have g8 := g67.same (same_upd (o := .lst (ps.map V.str ++ ys.map V.str)) nnn)
    have e8 : (upd H7 nn (.lst (ps.map V.str ++ ys.map V.str))) nn = some (.lst ((ps ++ ys).map V.str)) := by rw [upd_same, List.map_append]
    have N8 : NamesAt (upd H7 nn (.lst (ps.map V.str ++ ys.map V.str))) nn (ps ++ ys) := by
      refine ⟨e8, fun z => ?_, ?_, fun x hx => ?_⟩
      · have := congrArg List.length z
        rw [List.length_append] at this
        simp only [List.length_nil] at this
        omega
      · rw [List.length_append]
        omega
      · rcases List.mem_append.mp hx with hx | hx
        · exact hpnm x hx
        · exact hmnm x (List.mem_filter.mp (hysub x hx)).1
    generalize upd H7 nn (.lst (ps.map V.str ++ ys.map V.str)) = H8 at g8 e8 N8
    have hst8 := hstc.pg g8
    -- state["at"] = k, state["rows"] = 20
    refine ⟨_, rfl, _, rfl, sp, _, rfl, hst8.putAt i, ?_⟩
    have hst9 : StAt (upd H8 sp (.dK (stD hd i r0 (10 - m) f))) sp hd i r0 (10 - m) f := upd_same
    have P9 := pd_put g8.pool hst8.dk (stD hd i r0 (10 - m) f)
    generalize upd H8 sp (.dK (stD hd i r0 (10 - m) f)) = H9 at hst9 P9
    refine ⟨_, rfl, sp, _, rfl, hst9.putRows 20, ?_⟩
    have hst10 : StAt (upd H9 sp (.dK (stD hd i 20 (10 - m) f))) sp hd i 20 (10 - m) f := upd_same
    have P10 := P9.trans (pd_put P9.pool hst9.dk (stD hd i 20 (10 - m) f))
    generalize upd H9 sp (.dK (stD hd i 20 (10 - m) f)) = H10' at hst10 P10
    have Q10 : Pd p2 sp Hc H10' := (g8.pd hstc.dk).trans P10
    have hHc := hHb.same sc
    -- rows
    refine ⟨_, rfl, _, rfl, _, rfl, p2, sp, nn, hd, i, 20, 10 - m, f, 2, 1, hs, ps ++ ys, rfl, Q10.pool, hst10, hHc.pd Q10, hO, hi2, N8.pd P10, by decide, by decide, by decide, by decide, fun H11' v rws r' m' P11 hst11 hm' A11 k11 c11 e11' h11 => ?_⟩
    have Q11 := Q10.trans P11
    have N11 := (N8.pd P10).pd P11
    have eL11 := Q11.at2 (sc _ _ eLb) neLp neLs
    refine ⟨_, rfl, .inl ⟨rfl, _, SqL.of eL11⟩, ?_⟩
    refine ⟨_, rfl, _, rfl, pl, _, rfl, .inl ⟨SqL.of (Q11.strs eplc), fun tp ntp => ?_⟩⟩
    have sp11 := same_upd (o := .tup (ps.map V.str)) ntp
    have Ap : At (upd H11' tp (.tup (ps.map V.str))) (.ref tp) (.tuple (ps.map PyData.str)) := at_new ntp (Ats.ofStrs ps)
    have Q12 := Q11.same sp11
    have A12 := A11.mono sp11.keep
    have N12 := N11.same sp11
    have hst12' : StAt (upd H11' tp (.tup (ps.map V.str))) sp hd i r' (10 - m - m') f := sp11 _ _ hst11
    generalize upd H11' tp (.tup (ps.map V.str)) = H12' at Ap Q12 A12 N12 hst12'
    refine ⟨_, rfl, _, rfl, _, rfl, p2, nn, 2, ps ++ ys, 3, rfl, Q12.pool, N12, by decide, by decide, fun H13' ve e g13 Ae ke => ?_⟩
    refine ⟨szn 4, fun td ntd => ?_⟩
    have s14 := same_upd (o := .tup [V.str nm, V.ref tp, v, ve]) ntd
    have A14 : At (upd H13' td (.tup [V.str nm, V.ref tp, v, ve])) (.ref td) (Dd.enc ⟨nm, ps, rws, e⟩) :=
      at_new ntd (.cons (.str _) (.cons (Ap.mono g13.keep) (.cons (A12.mono g13.keep) (.cons Ae .nil))))
    have Q14 := (Q12.pg g13).same s14
    have hst14 : StAt (upd H13' td (.tup [V.str nm, V.ref tp, v, ve])) sp hd i r' (10 - m - m') f := s14 _ _ (hst12'.pg g13)
    generalize upd H13' td (.tup [V.str nm, V.ref tp, v, ve]) = H14 at A14 Q14 hst14
    have eL14 := Q14.at2 (sc _ _ eLb) neLp neLs
    have hus : us.length = i := by rw [hAb.len, List.length_map, hdl']
    refine ⟨L, us, _, rfl, rfl, eL14, by rw [hus]; exact szl (by omega), ?_⟩
    have em' : 10 - m - m' = 10 - (m + m') := by omega
    rw [em'] at hst14
    have kp : Keep H14 (upd H14 L (.lst (us ++ [V.ref td]))) := Keep.wr eL14 (by intro xs z; cases z)
    have hfew := hds.few
    refine ⟨_, _, _, _, _, _, us ++ [V.ref td], ds ++ [⟨nm, ps, rws, e⟩], m + m', i, r', rfl, (Q14.since Sc np20 nsp0).mut nL0, ?_, ?_, ?_, ?_, upd_same, ?_, by rw [List.length_append, hdl']; rfl, ?_⟩
    · show (upd H14 L _) sp = _
      rw [upd_ne nesL]
      exact hst14
    · refine hHa.of fun q o eq h1 h2 => ?_
      obtain ⟨hq, eq⟩ := rmH_get eq
      refine rmH_mk hq ?_
      rw [upd_ne hq]
      exact Q14.at (sc _ _ (hkb _ _ eq)) h1 h2
    · rw [upd_ne neL]
      exact Q14.at2 (sc _ _ evsb) nehp nehs
    · rw [upd_ne nemL]
      exact Q14.strs emc
    · rw [List.map_append]
      exact ((hAb.mono (sc.keep.trans Q14.keep)).mono kp).app (.cons (A14.mono kp) .nil)
    · have hok : DdOk ⟨nm, ps, rws, e⟩ := ⟨hnm, hp4, hpnm, hpnd, k11, by show cntRs rws ≤ 20; omega, ke.mono (by decide)⟩
      refine ⟨?_, fun d hd => ?_, ?_, by omega⟩
      · rw [List.map_append, hds.heads, List.length_append, hdl']
        show hs.take i ++ [(nm, ps)] = hs.take (i + 1)
        rw [List.take_add_one, hhi]
        rfl
      · rcases List.mem_append.mp hd with hd | hd
        · exact hds.dds d hd
        · have ed : d = ⟨nm, ps, rws, e⟩ := by simpa using hd
          rw [ed]
          exact ⟨hok, h11⟩
      · rw [marksB_app, hds.marks, dm_add f 10 m m' hfew, ← e11']
        simp [marksB]
  · rintro σ H' ⟨u2, u7, u10, u11, u12, u13, us, ds, m, i0, r0, rfl, Sa, hsta, hHa, evsa, ema, eLa, hA, hdl', hds⟩
    refine ⟨_, rfl, L, us, rfl, .inl ⟨SqL.of eLa, fun tt ht => ?_⟩⟩
    have hl2 : ds.length = hs.length := by omega
    refine q _ _ ds (Sa.trans (same_upd ht)) (at_new ht hA) (book_ok hds hl2 (by omega) (by rw [hfst]; exact hnsnd) (by omega)) fun z => ?_
    rw [z] at hl2
    exact hO.ne (List.length_eq_zero_iff.mp hl2.symm)
end
end Cf


set_option Elab.async false
set_option linter.all false
set_option autoImplicit false
set_option maxRecDepth 100000
set_option maxHeartbeats 4000000
/-! The law, walked. -/
namespace Cf
open PySem PySem.Spec PyProof.Rows L2
section
variable {P : Program} {w : World} {K : PySem.W.Frag} {mg : Str → Option Value} {base : Heap}
def spLaw (K : PySem.W.Frag) : Sp := fun vs H Q _ => ∃ (a : Addr) (ns : List Int), vs = [.ref a] ∧ SqL K H a (ns.map V.int) ∧ ns.length ≤ 63 ∧ ∀ H', Q (.bl true) H'
abbrev sLaw : Stmt := top 57
theorem scLaw : FnScope ["script", "book", "text", "found", "again"] ["script"] (defScope sLaw) := ⟨rfl, rfl, rfl, by decide +kernel, rfl, by decide +kernel, by decide +kernel⟩
theorem fn_mk {x : Str} {st : Stmt} {N ps : List Str} {k : Nat} {sp : Sp} {f : Addr} {fd : FuncData} (F : FunD K x x (defArgs st) (defBody st) (defScope st) [] [] f fd) (S : FnScope N ps (defScope st)) (len : ∀ vs H Q E, sp vs H Q E → vs.length = ps.length)
    (hbody : ∀ f, BodyH P w K mg base k x st f N ps sp) : FnOk P w K mg base CX0 (k + 1) f fd ps sp :=
  F.ok S len fun cdv A outer s H vs Q E hr h => by
    obtain ⟨t, h1, h2⟩ := hbody f cdv A outer s H vs Q E hr h
    exact ⟨t, PSs.nox h1, h2⟩
theorem ok_law (T : TxA mg) {f0 : Addr} {fd0 : FuncData} (F : FunD K "law" "law" (defArgs sLaw) (defBody sLaw) (defScope sLaw) [] [] f0 fd0) (CC : Call P w K mg base 1 "_law_cells" (spCells (K := K))) (CB : Call P w K mg base 16 "_law_book" spBook) (CL : Call P w K mg base 13 "_law_book_texts" spLB) (CR : Call P w K mg base 13 "read_book" spRead)
    (CS : Call P w K mg base 15 "_law_same" (spSame 15)) (CM : Call P w K mg base 7 "made_book" spMade) (CT : Call P w K mg base 13 "book_text" spBT) : FnOk P w K mg base CX0 17 f0 fd0 ["script"] (spLaw K) := by
  refine fn_mk F scLaw (fun vs H Q E h => ?_) fun f cdv A outer s H vs Q E hr h => ?_
  · obtain ⟨a, ns, rfl, _⟩ := h
    rfl
  obtain ⟨a, ns, rfl, ha, hn, q⟩ := h
  have hu : A.units + 3 + 64 < cLine := by
    have := hr.un
    have e : (A.deeper (envOfC "law" (defScope sLaw) s.heap.objs.size f cdv)).units = A.units + 3 := rfl
    omega
  refine ⟨_, pss_cons (ps_set (i := 1) scLaw.nd rfl (.inl rfl) (pe_cl CB hr (pa_cons (pe_cl CC hr (pa_cons (pv 0) (pa_cons pe_int pa_nil))) (pa_cons pe_int pa_nil))))
    (pss_cons (ps_set (i := 2) scLaw.nd rfl (.inl rfl) (pe_join pe_str (pe_cl CL hr (pa_cons (pv 1) pa_nil))))
    (pss_cons (ps_set (i := 3) scLaw.nd rfl (.inl rfl) (pe_cl CR hr (pa_cons (pv 2) pa_nil)))
    (pss_cons (ps_if (PW.pt (pw_or (pt_not (pt_val (pe_cl CS hr (pa_cons (pv 3) (pa_cons (pv 1) pa_nil))))) (pw_or1 (pt_not (pt_val (pe_cl CS hr (pa_cons (pe_cl CM hr (pa_cons (pe_callTy call_list_of (by rfl) T.list (by decide +kernel) (pa_cons (pv 1) pa_nil)) pa_nil)) (pa_cons (pv 1) pa_nil))))))))
      (pss_one (ps_ret pe_bl)) pss_nil)
    (pss_cons (ps_set (i := 4) scLaw.nd rfl (.inl rfl) (pe_cl CR hr (pa_cons (pe_cl CT hr (pa_cons (pv 3) pa_nil)) pa_nil)))
    (pss_one (ps_ret (pe_and (pe_cl CS hr (pa_cons (pv 4) (pa_cons (pv 1) pa_nil))) (pe_and (pe_cmpR op_eq (pe_cl CT hr (pa_cons (pv 4) pa_nil)) (pv 2) (nomark _)) (pe_one (pe_cmpR (op_eqD hu) (pe_cl CR hr (pa_cons (pv 2) pa_nil)) (pv 3) (nomark _))))))))))), ?_⟩
  refine ⟨_, rfl, a, ns, rfl, ha, hn, fun H1 c cs s1 _ ec hcl => ?_⟩
  refine ⟨c, cs, rfl, ec, by omega, fun H2 v B s2 hB hok hne => ?_⟩
  have hSm := thin_bk hok
  have hSh := sh_bk hok.dds
  have room := bk_room hok.dds hok.len
  -- text
  refine ⟨⟨_, rfl⟩, _, rfl, v, B, rfl, hB, hok, fun H3 l s3 el => ?_⟩
  rw [lnV_strs] at el
  refine ⟨"\n", l, _, rfl, rfl, .inl (SqL.of el), by omega, ?_⟩
  -- found
  refine ⟨_, rfl, B, rfl, hok, hne, fun H4 v4 s4 hB4 => ?_⟩
  have hB4' : At H4 v (encB B) := hB.mono (s3.trans s4).keep
  refine ⟨_, rfl, _, rfl, v4, v, encB B, 14, rfl, hB4, hB4', hSm, by decide, fun H5 s5 => ⟨_, rfl, ifF rfl ?_⟩⟩
  have hB5 := hB4'.mono s5.keep
  obtain ⟨b, us, rfl, eb, hus⟩ := hB5.inv
  refine ⟨_, rfl, b, us, rfl, .inr (SqT.of eb), fun l6 n6 => ?_⟩
  have s6 := same_upd (o := .lst us) n6
  refine ⟨l6, us, B, rfl, upd_same, hus.mono s6.keep, hok, fun H7 v7 s7 hB7 => ?_⟩
  have s67 := s6.trans s7
  refine ⟨_, rfl, v7, _, encB B, 14, rfl, hB7, hB5.mono s67.keep, hSm, by decide, fun H8 s8 => ⟨_, rfl, ifF rfl ?_⟩⟩
  have s48 := (s5.trans s67).trans s8
  -- again
  refine ⟨_, rfl, v4, B, rfl, hB4.mono s48.keep, hok, fun H9 s9 => ?_⟩
  refine ⟨B, rfl, hok, hne, fun H10 v10 s10 hB10 => ?_⟩
  have s410 := (s48.trans s9).trans s10
  refine ⟨_, rfl, _, rfl, v10, _, encB B, 14, rfl, hB10, hB4'.mono s410.keep, hSm, by decide, fun H11 s11 => ⟨_, rfl, ifT rfl ?_⟩⟩
  refine ⟨_, rfl, v10, B, rfl, hB10.mono s11.keep, hok, fun H12 s12 => ?_⟩
  refine ⟨_, rfl, rfl, _, rfl, ifT (decide_eq_true rfl) ?_⟩
  refine ⟨_, rfl, B, rfl, hok, hne, fun H13 v13 s13 hB13 => ?_⟩
  have s413 := ((s410.trans s11).trans s12).trans s13
  refine ⟨_, rfl, encB B, encB B, hB13.dp, (hB4.mono s413.keep).dp, hSh.shaped (by decide), hSh.shaped (by decide), ?_⟩
  rw [SeqAt.eqv_refl _ hSh.1]
  exact q _
end
end Cf


set_option Elab.async false
set_option linter.all false
set_option autoImplicit false
set_option maxRecDepth 100000
set_option maxHeartbeats 4000000
/-! All the defs together. -/
namespace Cf
open PySem PySem.Spec PyProof.Rows L2
structure Facts (K : PySem.W.Frag) (w : World) (mg : Str → Option Value) (C : Addr) : Prop where
  tA : TxA mg
  tB : TxB K w mg
  tC : TxC mg
  tR : TxR K mg C
  tM : TxM mg
  tN : TxN K mg C
  tZ : TxZ mg
  abs : mg "abs" = none
  range : mg "range" = none
  d_word : Def K mg "is_word" sWord
  d_num : Def K mg "number_of" sNum
  d_leaf : Def K mg "leaf_from" sLeaf
  d_ex : Def K mg "expression_from" sEx
  d_exOf : Def K mg "expression_of" sExOf
  d_callOf : Def K mg "call_of" sCallOf
  d_plain : Def K mg "plain_row_of" sPlain
  m_init : Mth K C "__init__" "Reading.__init__" sInit
  m_takes : Mth K C "takes" "Reading.takes" sTakes
  m_opened : Mth K C "opened" "Reading.opened" sOpened
  m_given : Mth K C "given" "Reading.given" sGiven
  m_turned : Mth K C "turned_over" "Reading.turned_over" sTurned
  m_closed : Mth K C "closed" "Reading.closed" sClosed
  m_laid : Mth K C "laid" "Reading.laid" sLaid
  m_taken : Mth K C "row_taken" "Reading.row_taken" sTaken
  d_within : Def K mg "rows_within" sWithin
  d_through : Def K mg "read_through" sThrough
  d_rows : Def K mg "rows_of" sRows
  d_deedOf : Def K mg "deed_of" sDeedOf
  d_lookN : Def K mg "look_at_names" sLookN
  d_lookC : Def K mg "look_at_call" sLookC
  d_made : Def K mg "made_book" sMade
  d_read : Def K mg "read_book" sRead
  d_ET : Def K mg "expression_text" sET
  d_RT : Def K mg "row_texts" sRT
  d_AT : Def K mg "all_texts" sAT
  d_BT : Def K mg "book_text" sBT
  d_LW : Def K mg "_law_written" sLW
  d_LR : Def K mg "_law_row_texts" sLR
  d_LT : Def K mg "_law_texts" sLT
  d_LB : Def K mg "_law_book_texts" sLB
  d_same : Def K mg "_law_same" sSame
  d_cells : Def K mg "_law_cells" sCells
  d_pool : Def K mg "_law_pool" sPool
  d_take : Def K mg "_law_take" sTake
  d_some : Def K mg "_law_some" sSome
  d_val : Def K mg "_law_value" sVal
  d_eg : Def K mg "_law_expression" sEg
  d_lcall : Def K mg "_law_call" sLCall
  d_lrow : Def K mg "_law_row" sLRow
  d_lrows : Def K mg "_law_rows" sLRows
  d_beside : Def K mg "_law_words_beside" sBeside
  d_book : Def K mg "_law_book" sBook
theorem law_all {P : Program} {w : World} {K : PySem.W.Frag} {mg : Str → Option Value} {base : Heap} {C f : Addr} {fd : FuncData} (X : Facts K w mg C) (F : FunD K "law" "law" (defArgs sLaw) (defBody sLaw) (defScope sLaw) [] [] f fd) :
    FnOk P w K mg base CX0 17 f fd ["script"] (spLaw K) := by
  have cW := ok_word (P := P) (w := w) (base := base) X.tA X.d_word
  have cN := ok_num (P := P) (w := w) (base := base) X.tA X.d_num
  have cL := ok_leaf X.tA X.tB.mv X.d_leaf cW cN
  have cE := ok_ex X.tA X.tB X.d_ex cL 5
  have cEO := ok_exOf X.tA X.d_exOf cE
  have cCO := ok_callOf X.tA X.tC X.d_callOf cW cN cEO
  have cP := ok_plain X.tA X.d_plain cCO cW cEO
  have mI := ok_init (P := P) (w := w) (base := base) X.tR X.m_init
  have mT := ok_turned (P := P) (w := w) (base := base) X.tR X.m_turned
  have mL := ok_laid (P := P) (w := w) (base := base) X.tR X.m_laid
  have mC := ok_closed X.tA X.tR X.m_closed mL
  have mO := ok_opened X.tA X.tC X.tR X.m_opened cW
  have mG := ok_given X.tA X.tR X.m_given cEO
  have mR := ok_taken X.tA X.tC X.tR X.m_taken cEO cP mL
  have mK := ok_takes X.tR X.m_takes mO mG mT mC mR
  have cWi := ok_within (P := P) (w := w) (base := base) X.d_within
  have cTh := ok_through X.d_through cWi 4
  have cRo := ok_rows X.d_rows cTh
  have cDe := ok_deedOf (P := P) (w := w) (base := base) X.d_deedOf
  have cLN := ok_lookN (P := P) (w := w) (base := base) X.tA X.tM X.d_lookN
  have cLC := ok_lookC X.tA X.d_lookC cDe
  have cM := ok_made X.tA X.d_made cLN cRo cLC
  have cR := ok_read X.tA X.tR X.tN X.d_read mI mK cM
  have cET := ok_ET (P := P) (base := base) X.tA X.tB X.d_ET 5
  have cAT := (ok_texts X.tA X.d_AT X.d_RT cET 3).1
  have cBT := ok_BT X.tA X.d_BT cET cAT
  have cLW := ok_LW (P := P) (w := w) (base := base) X.tA X.d_LW 5
  have cLT := (ok_ltexts X.tA X.d_LT X.d_LR cLW 3).1
  have cLB := ok_LB X.tA X.d_LB cLW cLT
  have cS := ok_same (P := P) (w := w) (base := base) X.tA X.tZ X.d_same 15
  have cCe := ok_cells (P := P) (w := w) (base := base) X.tA X.tN.enum X.d_cells
  have cPo := ok_pool (P := P) (w := w) (base := base) X.tA X.abs X.d_pool
  have cTk := ok_take (P := P) (w := w) (base := base) X.d_take
  have cSo := ok_some X.tA X.range X.d_some cTk
  have cVa := ok_val X.d_val cTk
  have cEg := ok_eg X.tA X.d_eg cTk cVa 5
  have cCa := ok_lcall X.tA X.d_lcall cTk cEg
  have cGe := ok_gen X.tA X.range X.d_lrow X.d_lrows cTk cEg cCa 3
  have cBe := ok_beside X.tA X.range X.d_beside cTk
  have cBk := ok_book X.tA X.tN.enum X.d_book cTk cPo cSo cBe cEg cGe
  exact ok_law X.tA F cCe cBk cLB cR cS cM cBT
end Cf


set_option Elab.async false
set_option linter.all false
set_option maxRecDepth 100000
set_option maxHeartbeats 0
/-! The head: facts of the top, by names; the row. -/
namespace Cf
open PySem PySem.Spec PyProof.Rows L2
def mkDef (x : Str) (st : Stmt) : He.DefD := ⟨(x, none), x, x, defArgs st, defBody st, defScope st, [], []⟩
def mkMth (m q : Str) (st : Stmt) : He.DefD := ⟨("Reading", some m), m, q, defArgs st, defBody st, defScope st, [], []⟩
def fn1 : List He.DefD := [mkDef "rows_within" sWithin, mkDef "read_through" sThrough, mkDef "rows_of" sRows, mkDef "deed_of" sDeedOf, mkDef "look_at_names" sLookN, mkDef "look_at_call" sLookC, mkDef "made_book" sMade, mkDef "expression_text" sET, mkDef "row_texts" sRT, mkDef "all_texts" sAT, mkDef "book_text" sBT, mkDef "is_word" sWord, mkDef "number_of" sNum, mkDef "leaf_from" sLeaf, mkDef "expression_from" sEx, mkDef "expression_of" sExOf, mkDef "call_of" sCallOf, mkDef "plain_row_of" sPlain, mkDef "read_book" sRead, mkDef "_law_cells" sCells, mkDef "_law_pool" sPool, mkDef "_law_take" sTake, mkDef "_law_some" sSome, mkDef "_law_value" sVal, mkDef "_law_expression" sEg, mkDef "_law_call" sLCall, mkDef "_law_row" sLRow, mkDef "_law_rows" sLRows, mkDef "_law_words_beside" sBeside, mkDef "_law_book" sBook, mkDef "_law_written" sLW, mkDef "_law_row_texts" sLR, mkDef "_law_texts" sLT, mkDef "_law_book_texts" sLB, mkDef "_law_same" sSame]
def fn2 : List He.DefD := [mkMth "__init__" "Reading.__init__" sInit, mkMth "takes" "Reading.takes" sTakes, mkMth "opened" "Reading.opened" sOpened, mkMth "given" "Reading.given" sGiven, mkMth "turned_over" "Reading.turned_over" sTurned, mkMth "closed" "Reading.closed" sClosed, mkMth "laid" "Reading.laid" sLaid, mkMth "row_taken" "Reading.row_taken" sTaken, mkDef "law" sLaw]
def fn : List He.DefD := fn1 ++ fn2
def fa1 : List He.Fa := [.glo "rows_within", .glo "read_through", .glo "rows_of", .glo "deed_of", .glo "look_at_names", .glo "look_at_call", .glo "made_book", .glo "expression_text", .glo "row_texts", .glo "all_texts", .glo "book_text", .glo "is_word", .glo "number_of", .glo "leaf_from", .glo "expression_from", .glo "expression_of", .glo "call_of", .glo "plain_row_of", .glo "read_book", .glo "_law_cells", .glo "_law_pool", .glo "_law_take", .glo "_law_some", .glo "_law_value", .glo "_law_expression", .glo "_law_call", .glo "_law_row", .glo "_law_rows", .glo "_law_words_beside", .glo "_law_book", .glo "_law_written", .glo "_law_row_texts", .glo "_law_texts", .glo "_law_book_texts", .glo "_law_same"]
def fa2 : List He.Fa := [.glo "law", .glo "Reading", .cls "Reading", .mkr "Reading", .noat "Reading" "read_deeds", .noat "Reading" "head", .noat "Reading" "blocks", .noat "Reading" "row_count", .noat "Reading" "call_count", .meth "Reading" "__init__", .meth "Reading" "takes", .meth "Reading" "opened", .meth "Reading" "given", .meth "Reading" "turned_over", .meth "Reading" "closed", .meth "Reading" "laid", .meth "Reading" "row_taken"]
def fa3 : List He.Fa := [.glo "WORDS", .glo "SIGNS", .str "SMALL" SMALL, .str "FIGURES" FIGS, .int "MOST_VALUE" 999999, .int "MOST_MARK" 99, .int "MOST_DEEDS" 8, .int "MOST_PARAMS" 4, .int "MOST_CALLS" 10, .int "MOST_ROWS" 20, .int "MOST_DEEP" 3, .int "DEEPEST" 5, .free "len", .free "all", .free "int", .free "str", .free "tuple", .free "list", .free "set", .free "enumerate", .free "zip", .free "isinstance", .free "bool", .free "abs", .free "range"]
def fa : List He.Fa := fa1 ++ (fa2 ++ fa3)
def ops : List Op := [.plus, .less, .times, .over, .rest, .under, .same]
theorem ops_all (o : Op) : o ∈ ops := by cases o <;> decide
def wordsK : List (Str × He.Dv) := ops.map fun o => (o.sign, .str o.word)
def signsK : List (Str × He.Dv) := ops.map fun o => (o.word, .str o.sign)
def ts : List He.Tab := [(fun K => He.ga K "WORDS", ops.map Op.sign), (fun K => He.ga K "SIGNS", ops.map Op.word)]
def ex (K : PySem.W.Frag) : Bool := He.valsB K (He.ga K "WORDS") wordsK && He.valsB K (He.ga K "SIGNS") signsK
abbrev R : PySem.W.OpenRow := PySem.W.OpenLaw.row PySem.Challenge.rw_callfold_k13_whole_read_back
abbrev hk : PySem.W.Hook := He.hookX 5 fa fn ts [] ex
def ob (s : PySem.W.SharedT) : He.AlX := He.obsX 5 fa fn ts [] ex (HandSHeadRun.getT s)
theorem ob_eq (s : PySem.W.SharedT) : ob s = hk.obs s.abs := He.obsX_eq (HandSHeadRun.getT_eq s)
def names1 : List PySem.Str := ["FoldError", "Twice", "NoDeed", "WrongCount", "NoText", "rows_within", "read_through", "rows_of", "deed_of", "look_at_names", "look_at_call", "made_book", "expression_text", "row_texts", "all_texts", "book_text", "is_word", "number_of", "leaf_from", "expression_from", "expression_of", "call_of", "plain_row_of", "read_book", "_law_cells", "_law_pool", "_law_take", "_law_some", "_law_value", "_law_expression"]
def names2 : List PySem.Str := ["_law_call", "_law_row", "_law_rows", "_law_words_beside", "_law_book", "_law_written", "_law_row_texts", "_law_texts", "_law_book_texts", "_law_same", "Reading", "SMALL", "FIGURES", "WORDS", "SIGNS", "MOST_VALUE", "MOST_MARK", "MOST_DEEDS", "MOST_PARAMS", "MOST_CALLS", "MOST_ROWS", "MOST_DEEP", "DEEPEST"]
def names : List PySem.Str := names1 ++ names2
theorem run0 (w : World) : HandSHeadRun.RunEq R (PySem.W.view R.prog [57]) hk ob 4000 names (w.withFollow "special-get-raises" false) := by
  intro os
  kernel_rfl
theorem run1 (w : World) : HandSHeadRun.RunEq R (PySem.W.view R.prog [57]) hk ob 4000 names (w.withFollow "special-get-raises" true) := by
  intro os
  kernel_rfl
theorem run (w : World) : HandSHeadRun.RunEq R (PySem.W.view R.prog [57]) hk ob 4000 names w :=
  PySem.W.byRow2 "special-get-raises" (P := fun w => HandSHeadRun.RunEq R (PySem.W.view R.prog [57]) hk ob 4000 names w) run0 run1 w
section
variable {K : PySem.W.Frag} {h : Heap} {mg : Str → Option Value}
theorem def_of (c : He.SaysD fa fn K) (X : K.In h) (G : h.Ns mainGlobals mg) {x : Str} {st : Stmt} (i j : Nat) (hi : fn[i]? = some (mkDef x st)) (hj : fa[j]? = some (.glo x)) : Def K mg x st := by
  obtain ⟨fd, F⟩ := c.def_ i hi
  exact ⟨_, fd, F, He.glo_ok X G (c.fact j hj)⟩
theorem mth_of (c : He.SaysD fa fn K) {m q : Str} {st : Stmt} (i j : Nat) (hi : fn[i]? = some (mkMth m q st)) (hj : fa[j]? = some (.meth "Reading" m)) : Mth K (He.ga K "Reading") m q st := by
  obtain ⟨fd, F⟩ := c.def_ i hi
  exact ⟨_, fd, F, He.meth_ok (c.fact j hj)⟩
theorem int_of (c : He.SaysD fa fn K) (X : K.In h) (G : h.Ns mainGlobals mg) {x : Str} {n : Int} (j : Nat) (hj : fa[j]? = some (.int x n)) : Con mg x (.int n) := by
  obtain ⟨t, e⟩ := He.int_ok X G (c.fact j hj)
  exact ⟨_, e, t, rfl⟩
theorem str_of (c : He.SaysD fa fn K) (X : K.In h) (G : h.Ns mainGlobals mg) {x z : Str} (j : Nat) (hj : fa[j]? = some (.str x z)) : Con mg x (.str z) := by
  obtain ⟨t, e⟩ := He.str_ok X G (c.fact j hj)
  exact ⟨_, e, t, rfl⟩
theorem free_of (c : He.SaysD fa fn K) (X : K.In h) (G : h.Ns mainGlobals mg) {x : Str} (j : Nat) (hj : fa[j]? = some (.free x)) : mg x = none := He.free_ok X G (c.fact j hj)
theorem facts_of {w : World} (cx : He.SaysX fa fn ts [] ex w h K) (X : K.In h) (G : h.Ns mainGlobals mg) : Facts K w mg (He.ga K "Reading") := by
  have c : He.SaysD fa fn K := cx.t.d
  obtain ⟨hx1, hx2⟩ := He.ba (show (He.valsB K (He.ga K "WORDS") wordsK && He.valsB K (He.ga K "SIGNS") signsK) = true from cx.more)
  obtain ⟨es1, n1, KD1⟩ := cx.t.tab 0 (t := (fun K => He.ga K "WORDS", ops.map Op.sign)) rfl
  obtain ⟨es2, n2, KD2⟩ := cx.t.tab 1 (t := (fun K => He.ga K "SIGNS", ops.map Op.word)) rfl
  have W1 : DictC K w mg "WORDS" Op.sign Op.word := ⟨_, es1, n1, He.glo_ok X G (c.fact (f := .glo "WORDS") 52 rfl), KD1, fun o => He.valsB_ok hx1 (q := (o.sign, .str o.word)) (List.mem_map.mpr ⟨o, ops_all o, rfl⟩)⟩
  have W2 : DictC K w mg "SIGNS" Op.word Op.sign := ⟨_, es2, n2, He.glo_ok X G (c.fact (f := .glo "SIGNS") 53 rfl), KD2, fun o => He.valsB_ok hx2 (q := (o.word, .str o.sign)) (List.mem_map.mpr ⟨o, ops_all o, rfl⟩)⟩
  have MK := He.mkr_ok (x := "Reading") (c.fact 38 rfl)
  exact {
    tA := ⟨free_of c X G 64 rfl, free_of c X G 65 rfl, free_of c X G 66 rfl, free_of c X G 67 rfl, free_of c X G 68 rfl, free_of c X G 69 rfl, str_of c X G 54 rfl, str_of c X G 55 rfl⟩
    tB := ⟨int_of c X G 56 rfl, int_of c X G 63 rfl, W1, W2⟩
    tC := ⟨int_of c X G 57 rfl, int_of c X G 58 rfl, int_of c X G 59 rfl, int_of c X G 60 rfl, int_of c X G 61 rfl, int_of c X G 62 rfl⟩
    tR := ⟨He.cls_ok (x := "Reading") (c.fact 37 rfl), He.noat_ok (x := "Reading") (f := "read_deeds") (c.fact 39 rfl), He.noat_ok (x := "Reading") (f := "head") (c.fact 40 rfl), He.noat_ok (x := "Reading") (f := "blocks") (c.fact 41 rfl), He.noat_ok (x := "Reading") (f := "row_count") (c.fact 42 rfl), He.noat_ok (x := "Reading") (f := "call_count") (c.fact 43 rfl)⟩
    tM := ⟨free_of c X G 70 rfl⟩
    tN := ⟨MK.makes, MK.kp, He.glo_ok X G (c.fact (f := .glo "Reading") 36 rfl), free_of c X G 71 rfl⟩
    tZ := ⟨free_of c X G 72 rfl, free_of c X G 73 rfl, free_of c X G 74 rfl⟩
    abs := free_of c X G 75 rfl
    range := free_of c X G 76 rfl
    d_within := def_of c X G 0 0 rfl rfl
    d_through := def_of c X G 1 1 rfl rfl
    d_rows := def_of c X G 2 2 rfl rfl
    d_deedOf := def_of c X G 3 3 rfl rfl
    d_lookN := def_of c X G 4 4 rfl rfl
    d_lookC := def_of c X G 5 5 rfl rfl
    d_made := def_of c X G 6 6 rfl rfl
    d_ET := def_of c X G 7 7 rfl rfl
    d_RT := def_of c X G 8 8 rfl rfl
    d_AT := def_of c X G 9 9 rfl rfl
    d_BT := def_of c X G 10 10 rfl rfl
    d_word := def_of c X G 11 11 rfl rfl
    d_num := def_of c X G 12 12 rfl rfl
    d_leaf := def_of c X G 13 13 rfl rfl
    d_ex := def_of c X G 14 14 rfl rfl
    d_exOf := def_of c X G 15 15 rfl rfl
    d_callOf := def_of c X G 16 16 rfl rfl
    d_plain := def_of c X G 17 17 rfl rfl
    d_read := def_of c X G 18 18 rfl rfl
    d_cells := def_of c X G 19 19 rfl rfl
    d_pool := def_of c X G 20 20 rfl rfl
    d_take := def_of c X G 21 21 rfl rfl
    d_some := def_of c X G 22 22 rfl rfl
    d_val := def_of c X G 23 23 rfl rfl
    d_eg := def_of c X G 24 24 rfl rfl
    d_lcall := def_of c X G 25 25 rfl rfl
    d_lrow := def_of c X G 26 26 rfl rfl
    d_lrows := def_of c X G 27 27 rfl rfl
    d_beside := def_of c X G 28 28 rfl rfl
    d_book := def_of c X G 29 29 rfl rfl
    d_LW := def_of c X G 30 30 rfl rfl
    d_LR := def_of c X G 31 31 rfl rfl
    d_LT := def_of c X G 32 32 rfl rfl
    d_LB := def_of c X G 33 33 rfl rfl
    d_same := def_of c X G 34 34 rfl rfl
    m_init := mth_of c 35 44 rfl rfl
    m_takes := mth_of c 36 45 rfl rfl
    m_opened := mth_of c 37 46 rfl rfl
    m_given := mth_of c 38 47 rfl rfl
    m_turned := mth_of c 39 48 rfl rfl
    m_closed := mth_of c 40 49 rfl rfl
    m_laid := mth_of c 41 50 rfl rfl
    m_taken := mth_of c 42 51 rfl rfl
  }
theorem law_facts {P : Program} {w : World} {f : Addr} (cx : He.SaysX fa fn ts [] ex w h K) (X : K.In h) (G : h.Ns mainGlobals mg) (hfa : mg ("law" : Str) = some (.ref f)) :
    ∃ fd : FuncData, (∀ (s : Shared) (v : Value), BindsTo s fd ⟨[v], []⟩ [("script", v)]) ∧ ∀ base : Heap, K.In base → base.Ns mainGlobals mg → FnOk P w K mg base CX0 17 f fd ["script"] (spLaw K) := by
  have c : He.SaysD fa fn K := cx.t.d
  obtain ⟨fd, F⟩ := c.def_ 43 (d := mkDef "law" sLaw) rfl
  have e := hfa.symm.trans (He.glo_ok X G (c.fact 35 (f := .glo "law") rfl))
  cases e
  have b := FunD.bindsA (ps := ["script"]) F fun _ _ _ _ _ _ us hl => match us, hl with | [_], _ => rfl
  exact ⟨fd, fun s v => b s [v] rfl, fun base _ _ => law_all (facts_of cx X G) F⟩
end
end Cf
open PySem PySem.W PySem.Calls PyProof.Rows
theorem PySem.Challenge.cw_callfold_k13_whole_read_back_holds : PySem.Challenge.rw_callfold_k13_whole_read_back.Holds := by
  w_on; o_law
  refine HandSHeadRun.head_any (r := OpenLaw.row PySem.Challenge.rw_callfold_k13_whole_read_back) (q := view (OpenLaw.row PySem.Challenge.rw_callfold_k13_whole_read_back).prog [57]) (H := Cf.hk) (ob := Cf.ob) (M := 4000) (loose := Cf.names) (d := HandSHeadRun.topDef (OpenLaw.row PySem.Challenge.rw_callfold_k13_whole_read_back).prog 57) (kwd := []) Cf.ob_eq
    (by kernel_rfl) (fun s => by kernel_rfl) Cf.run (by kernel_rfl) (by kernel_rfl) (by kernel_rfl) (by rfl) (by first | assumption | decide +kernel) (by decide +kernel) ⟨rfl, rfl, rfl, rfl, rfl, by decide +kernel⟩ ?hw ?hc
  case hw => w_witness2
  case hc =>
    refine L2.walk_ofE (l := PySem.Challenge.rw_callfold_k13_whole_read_back) (n := 63) (k := 17) (x := "script") (CX := L2.CX0) rfl (by decide) (by kernel_rfl) ⟨rfl, by decide, by decide⟩ ?F (fun _ _ _ _ z => z)
    intro w mg fa h Y G hmg0
    obtain ⟨K, KX, c⟩ := Y
    have hmg : mg ("law" : PySem.Str) = some (.ref fa) := by
      have e : (HandSHeadRun.topDef (OpenLaw.row PySem.Challenge.rw_callfold_k13_whole_read_back).prog 57).name = ("law" : PySem.Str) := by kernel_rfl
      rw [← e]
      exact hmg0
    obtain ⟨fd, hb, hF⟩ := Cf.law_facts (P := (PySem.Challenge.rw_callfold_k13_whole_read_back).prog) (w := w) c KX G hmg
    exact ⟨K, fd, Cf.spLaw K, KX, hb, fun H a ns hl _ hS => ⟨a, ns, rfl, hS, hl, fun _ => rfl⟩, hF⟩

