import PyProof.Rows.All
import Wide.All
import OpenK.AllK
import Wide.FinOn
import Lean
import PySem.Challenge.RW_np0058_01
open PySem PySem.W PyProof.Rows PySem.Calls
set_option Elab.async false
set_option maxRecDepth 100000
set_option maxHeartbeats 16000000
set_option genInjectivity false
set_option genSizeOfSpec false
namespace Mine
section
local macro_rules | `(tactic| o_head $_) => `(tactic| assumption)
theorem hd (h : PySem.Challenge.rw_np0058_01.row.Holds) : PySem.Challenge.rw_np0058_01.row.Holds := by k_head
end
def keep : List Nat := [0, 2, 4, 5, 6, 7, 8, 9, 10, 11, 12, 13, 14, 15, 17, 18, 19, 20, 22, 23, 24, 25, 27, 28, 30, 31, 32, 34, 35, 36]
def addrs : List Nat := [2, 3, 15, 17, 18, 20, 21, 22, 29, 31, 32, 34, 35, 36, 37, 38, 39, 49, 51, 52, 54, 55, 56, 58, 59, 61, 62, 63, 65, 66, 68, 69, 70, 72, 73, 75, 76, 77, 79, 80, 82, 83, 84, 86, 87, 89, 90, 91, 92, 93, 94, 95, 105, 106, 108, 109, 111, 112, 113, 115, 116, 118, 119, 120, 122, 123, 125, 126, 127, 129, 130, 132, 133, 134, 136, 137, 139, 140, 141, 143, 144, 146, 147, 148, 150, 151, 153, 154, 155, 157, 158, 160, 161, 162, 163, 164, 165, 166, 169, 171, 172, 174, 175, 176, 178, 179, 181, 182, 183, 185, 186, 188, 189, 190, 192, 193, 195, 196, 197, 199, 200, 202, 203, 204, 206, 207, 209, 210, 211, 214, 215, 216, 219, 220, 221, 224, 225, 226, 228, 229, 231, 232, 233, 235, 236, 238, 239, 240, 242, 243, 245, 246, 247, 249, 250, 252, 253, 254, 256, 257, 259, 260, 261, 264, 265, 266, 269, 270, 271, 272, 275, 276, 277, 280, 281, 282, 285, 286, 287, 290, 291, 292, 294, 295, 297, 298, 299, 302, 303, 304, 307, 308]
theorem addrs_eq : ∀ P, addrs = (Mine.hd.heap_1 P).map (·.1) := fun _ => by kernel_rfl
noncomputable def theView : Program := view PySem.Challenge.pw_np0058_01 keep
theorem said : PySem.Challenge.rw_np0058_01.wellSaid = true := by
  rw [PySem.W.Fast.te9446332074065402090]
  unfold PySem.W.Fast.tw9446332074065402090 PySem.W.Fast.tw17960256430627541270 PySem.W.Fast.tw2436336058641802641 PySem.W.Fast.tw12908688711261696721
  simp only [Bool.and_eq_true, and_assoc]
  repeat' apply And.intro
  all_goals decide +kernel
theorem left_of_boot {p q : Program} {loose : List Str} {Xt : Shared → Bool} {α : Type} {Yf : Shared → α} {Ya : World → α} {N : Nat}
    (e : opening p = plainProg p.main.scope.names) (hN : Nat.ble 600 N = true) (f : ∀ s, fenceModules? p s = some s)
    (h : ∀ (w : World) (os : OsState), (topFrom treeTable p w N ⟨boot_heap w.params, #[], boot_drawn, boot_toks, os⟩).map (fun s => (openSeen q loose (importedModules p.main.body) Xt true s, Yf s)) = some (openGood q loose, Ya w)) : LeftO p q loose Xt Yf Ya N := fun w => by
  obtain ⟨⟨h0, gs, d, k, os⟩, e2, e3⟩ := Option.map_eq_some_iff.mp (boot_open e hN f w)
  obtain ⟨rfl, rfl, rfl, rfl⟩ : h0 = boot_heap w.params ∧ gs = #[] ∧ d = boot_drawn ∧ k = boot_toks := by simpa using e3
  unfold openEnds
  rw [e2]
  exact h w os
theorem opens : opening PySem.Challenge.pw_np0058_01 = plainProg PySem.Challenge.pw_np0058_01.main.scope.names := by kernel_rfl
theorem fences : ∀ s, fenceModules? PySem.Challenge.pw_np0058_01 s = some s := fun s => by kernel_rfl
def topRunF (F : SharedT → Thread → Option (SharedT × Thread)) (ok : Thread → Bool) : Nat → SharedT → Thread → Option SharedT
  | 0, _, _ => none
  | n + 1, s, t => match through t with
    | true => some s
    | false => match ok t with
      | false => none
      | true => match F s t with
        | some (s', t') => topRunF F ok n s' t'
        | none => none
theorem topRunF_of {tb : String → Option Builtin} {p : Program} {w : World} {n₀ : Nat} {ann : Option Value} : ∀ {n : Nat} {s s' : SharedT} {t : Thread}, topRunF (stepT (denote tb) p w) (stepOk n₀ ann) n s t = some s' → topRun tb p w n₀ ann n s.abs t = some s'.abs
  | 0, _, _, _, h => by cases h
  | n + 1, s, s', t, h => by
    unfold topRunF at h
    unfold topRun
    cases ht : through t with
    | true => rw [ht] at h; cases h; rfl
    | false =>
      rw [ht] at h
      cases hk : stepOk n₀ ann t with
      | false => rw [hk] at h; cases h
      | true =>
        rw [hk] at h
        cases hs : stepT (denote tb) p w s t with
        | none => rw [hs] at h; cases h
        | some r => obtain ⟨s₂, t₂⟩ := r; rw [hs] at h; dsimp only; rw [stepT_spec hs]; exact topRunF_of h
noncomputable def bootTree (P : Params) : BT := ((((((((((BT.nil.ins 0 (boot_o_0 P)).ins 1 (boot_o_1 P)).ins 2 (boot_o_2 P)).ins 3 (boot_o_3 P)).ins 4 (boot_o_4 P)).ins 5 (boot_o_5 P)).ins 6 (boot_o_6 P)).ins 7 (boot_o_7 P)).ins 8 (boot_o_8 P)).ins 9 (boot_o_9 P)).ins 10 (boot_o_10 P)
noncomputable def bootT (P : Params) (os : OsState) : SharedT := ⟨bootTree P, 11, {}, #[], boot_drawn, boot_toks, os⟩
theorem bootT_abs : ∀ (P : Params) (os : OsState), (bootT P os).abs = ⟨boot_heap P, #[], boot_drawn, boot_toks, os⟩ := by
  intro P os
  kernel_rfl
noncomputable def runT (w : World) (os : OsState) : Option SharedT := topRunF (stepT (denote treeTable) PySem.Challenge.pw_np0058_01 w) (stepOk 11 (some (.ref 6))) 3904 (bootT w.params os) (topStub PySem.Challenge.pw_np0058_01)
noncomputable def seenOf (s : SharedT) := openSeen theView [Str.ofString "show_buffer"] (importedModules PySem.Challenge.pw_np0058_01.main.body) (fun s => xlAt theView [] s && recOk PySem.Challenge.rw_np0058_01.row.records s) true s.abs
noncomputable def fineOf (w : World) (s : SharedT) : Bool := staticsOk (importedModules PySem.Challenge.pw_np0058_01.main.body) (boot_heap w.params) s.abs.heap && namesBound PySem.Challenge.pw_np0058_01 s.abs.heap && gensDone s.abs && laidKept (boot_heap w.params) s.abs.heap
def snd' {α β : Type} (x : α × β) : β := match x with | (_, b) => b
theorem snd'_eq {α β : Type} (x : α × β) : snd' x = x.2 := by cases x; rfl
theorem leftD : ∀ (w : World) (os : OsState), (runT w os).map (fun s => ((kmHook Mine.hd.heap_1 addrs addrs_eq [305]).obs s.abs, fineOf w s, (seenOf s).1)) = some ((kmHook Mine.hd.heap_1 addrs addrs_eq [305]).val w, true, expectedOf theView) := by
  unfold runT seenOf
  rw [PySem.W.Fast.te10156331382660048174, PySem.W.Fast.te11892475500146522536, PySem.W.Fast.te14364793385576792824, PySem.W.Fast.te4187177175401517315]
  intro w os
  kernel_rfl
theorem leftE : ∀ (w : World) (os : OsState), (runT w os).map (fun s => snd' (seenOf s)) = some (openGood theView [Str.ofString "show_buffer"]).2 := by
  unfold runT seenOf
  rw [PySem.W.Fast.te10156331382660048174, PySem.W.Fast.te11892475500146522536, PySem.W.Fast.te14364793385576792824, PySem.W.Fast.te4187177175401517315]
  intro w os
  kernel_rfl
theorem leftA : ∀ (w : World) (os : OsState), (topFrom treeTable PySem.Challenge.pw_np0058_01 w 3904 ⟨boot_heap w.params, #[], boot_drawn, boot_toks, os⟩).map (fun s => (openSeen theView [Str.ofString "show_buffer"] (importedModules PySem.Challenge.pw_np0058_01.main.body) (fun s => xlAt theView [] s && recOk PySem.Challenge.rw_np0058_01.row.records s) true s, (kmHook Mine.hd.heap_1 addrs addrs_eq [305]).obs s)) = some (openGood theView [Str.ofString "show_buffer"], (kmHook Mine.hd.heap_1 addrs addrs_eq [305]).val w) := by
  intro w os
  obtain ⟨s, e, d⟩ := Option.map_eq_some_iff.mp (leftD w os)
  obtain ⟨s2, e2, d2⟩ := Option.map_eq_some_iff.mp (leftE w os)
  obtain rfl : s = s2 := Option.some.inj (e.symm.trans e2)
  obtain ⟨d1, d3⟩ := Prod.mk.inj d
  obtain ⟨d4, d5⟩ := Prod.mk.inj d3
  rw [snd'_eq] at d2
  have r := topRunF_of e
  rw [bootT_abs] at r
  have z : (topFrom treeTable PySem.Challenge.pw_np0058_01 w 3904 ⟨boot_heap w.params, #[], boot_drawn, boot_toks, os⟩) = some s.abs := by
    have f1 : ((boot_heap w.params).isNs mainGlobals && (#[] : Array GenState).size == 0) = true := by kernel_rfl
    have f2 : (boot_heap w.params).objs.size = 11 := by kernel_rfl
    have f3 : (boot_heap w.params).nsMap mainGlobals "__annotations__" = some (.ref 6) := by kernel_rfl
    unfold topFrom
    dsimp only
    rw [f1, f2, f3]
    dsimp only
    rw [r]
    show (match fineOf w s with | true => some s.abs | false => none) = _
    rw [d4]
  rw [z]
  show some (_, _) = some (_, _)
  exact congrArg some (Prod.ext (Prod.ext d5 d2) d1)
theorem left : LeftO PySem.Challenge.rw_np0058_01.row.prog theView [Str.ofString "show_buffer"] (fun s => xlAt theView [] s && recOk PySem.Challenge.rw_np0058_01.row.records s) (kmHook Mine.hd.heap_1 addrs addrs_eq [305]).obs (kmHook Mine.hd.heap_1 addrs addrs_eq [305]).val 3904 := left_of_boot opens rfl fences leftA

def TestEnd (h₀ : Heap) (L : Addr) (m : Str → Option Value) (nw : List (Addr × Obj)) (s : Shared) (want : Bool) (b : Bool) (s' : Shared) : Prop :=
  b = want ∧ ∃ h tk, s' = { s with heap := h, toks := tk } ∧ Fr h₀ L h m ∧ News h₀ L h nw
theorem TestEnd.intro {h₀ : Heap} {L : Addr} {m : Str → Option Value} {nw all : List (Addr × Obj)} {s : Shared} {want b : Bool} {h : Heap} {tk : Nat}
    (e : b = want) (F : Fr h₀ L h m) (N : News h₀ L h all) (sub : ∀ p ∈ nw, p ∈ all) : TestEnd h₀ L m nw s want b { s with heap := h, toks := tk } :=
  ⟨e, h, tk, rfl, F, fun p hp => N p (sub p hp)⟩
section
variable {prog : Program} {w : World} {A : Around} {h₀ : Heap} {L : Addr} {m : Str → Option Value} {env : Env} {ct : PySem.Expr} {x : Str} {pe : Pos} {scope : Scope} {cl : List (Str × Addr)} {s : Shared} {S : List (Addr × Obj) → Prop} {Fin : List Value → List (Addr × Obj) → Prop} {news L9 : List (Addr × Obj)}
theorem filt_rest {vs : List Value} {ds : List Dat} (p : Dat → Bool) (hD : DatAll L9 vs ds) (hS : S news) (hk : scope.kind = .function) (hx : scope.names.lookup x = some .local) (hd : (x == ("__debug__" : Str)) = false)
    (turn : ∀ v d I oI C oC D m₂ ys h tk (E' : Value → Shared → Prop), d ∈ ds → DatIn L9 v d → LCg.NsObj oC m₂ → m₂ x = some v → Fr h₀ L h m → News h₀ L h ((I, oI) :: (C, oC) :: (D, LCg.lst ys) :: news) → LCg.Off3 I C D news → ((@Ne Nat I C) ∧ (@Ne Nat I D) ∧ (@Ne Nat C D)) →
      wpAny (model prog w) A (isTrue ct (compEnvC scope cl C env) (eval ct (compEnvC scope cl C env))) (TestEnd h₀ L m ((I, oI) :: (C, oC) :: (D, LCg.lst ys) :: news) { s with heap := h, toks := tk } (p d)) E' { s with heap := h, toks := tk })
    (fin : ∀ ys, DatAll L9 ys (ds.filter p) → ys.length ≤ vs.length → Fin ys news) :
    LCt.CompRestT prog w A h₀ L m env ct (.Name x pe) x scope cl s S (fun i v => vs.toArray[i]? = some v) Fin vs.toArray.size 0 [] news := by
  have key : ∀ (j i : Nat) (ys : List Value), i + j = vs.length → DatAll L9 ys ((ds.take i).filter p) → ys.length ≤ i →
      LCt.CompRestT prog w A h₀ L m env ct (.Name x pe) x scope cl s S (fun i v => vs.toArray[i]? = some v) Fin j i ys news := by
    intro j
    induction j with
    | zero =>
      intro i ys hi hy hl
      have e : i = ds.length := by rw [← hD.length]; omega
      subst e
      rw [List.take_length] at hy
      exact LCt.CompRestT.zero (fin ys hy (by rw [hD.length]; exact hl))
    | succ j ih =>
      intro i ys hi hy hl
      refine LCt.CompRestT.succ ?_
      intro v I oI C oC D m₂ h tk E' hv hC hxv F N off ne
      have hlt : i < ds.length := by rw [← hD.length]; omega
      obtain ⟨v', hv', hDv⟩ := hD.get hlt
      have ev : v' = v := by
        have hv2 : vs[i]? = some v := by simpa using hv
        rw [hv'] at hv2; exact Option.some.inj hv2
      subst ev
      have hs : ds.take (i + 1) = ds.take i ++ [ds[i]'hlt] := by rw [List.take_add_one, List.getElem?_eq_getElem hlt]; rfl
      refine wpAny_mono (turn v' _ I oI C oC D m₂ ys h tk E' (List.getElem_mem hlt) hDv hC hxv F N off ne) (fun b s₂ hq => ?_) fun _ _ e => e
      obtain ⟨hb, h', tk', rfl, F', N'⟩ := hq
      cases b with
      | true =>
        simp only [if_true]
        refine LCgL.ld_own N' (.tail _ (.head _)) hC hxv ?_ (by simpa [compEnvC, relabel] using hk) (lookup_relabel_local hx) hd
        refine ⟨h', tk', news, rfl, F', N', off, hS, ih (i + 1) (ys ++ [v']) (by omega) ?_ (by simp; omega)⟩
        rw [hs, List.filter_append, List.filter_cons_of_pos hb.symm, List.filter_nil]
        exact DatAll.append hy (DatAll.one hDv)
      | false =>
        simp only [Bool.false_eq_true, if_false]
        refine ⟨h', tk', news, rfl, F', N', off, hS, ih (i + 1) ys (by omega) ?_ (by omega)⟩
        rw [hs, List.filter_append, List.filter_cons_of_neg (by rw [← hb]; simp), List.filter_nil, List.append_nil]
        exact hy
  have := key vs.length 0 [] (by omega) (by simpa using DatAll.nil) (Nat.le_refl _)
  simpa using this
end
abbrev rowD (b s p h : Int) : Dat := .tuple [.int b, .int s, .int p, .int h]
def rowIs (b : Int) : Dat → Bool
  | .tuple (.int a :: _) => a == b
  | _ => false
def rowNe (b : Int) (d : Dat) : Bool := !rowIs b d
def IsRow (d : Dat) : Prop := ∃ b s p h, d = rowD b s p h
def RowIn (ns : List Int) (d : Dat) : Prop := ∃ b s p h, d = rowD b s p h ∧ b ∈ ns
theorem RowIn.isRow {ns : List Int} {d : Dat} (h : RowIn ns d) : IsRow d := by
  obtain ⟨b, s, p, h, e, _⟩ := h
  exact ⟨b, s, p, h, e⟩
theorem rowNe_mk {a b s p h : Int} (e : a ≠ b) : rowNe b (rowD a s p h) = true := by simp [rowNe, rowIs, e]
theorem rowNe_eq {b s p h : Int} : rowNe b (rowD b s p h) = false := by simp [rowNe, rowIs]
theorem rowIn_mem {ns : List Int} {a s p h : Int} (e : RowIn ns (rowD a s p h)) : a ∈ ns := by
  obtain ⟨_, _, _, _, q, k⟩ := e
  cases q
  exact k
theorem IsRow.ok {d : Dat} (h : IsRow d) : kqdOk 8 d = true := by
  obtain ⟨_, _, _, _, rfl⟩ := h
  rfl
theorem rows_filter {ds : List Dat} {p : Dat → Bool} (h : ∀ d ∈ ds, IsRow d) : ∀ d ∈ ds.filter p, IsRow d := fun d hd => h d (List.mem_filter.mp hd).1
theorem rows_append {ds es : List Dat} (h : ∀ d ∈ ds, IsRow d) (k : ∀ d ∈ es, IsRow d) : ∀ d ∈ ds ++ es, IsRow d := fun d hd => (List.mem_append.mp hd).elim (h d) (k d)
theorem rows_one {b s p h : Int} : ∀ d ∈ [rowD b s p h], IsRow d := fun d hd => by
  rw [List.mem_singleton.mp hd]; exact ⟨_, _, _, _, rfl⟩
abbrev tupObj (vs : List Value) (n : Nat) : Obj := { cls := .type "tuple", data := .seq vs.toArray n }
theorem dat_row {news : List (Addr × Obj)} {v : Value} {a b c e : Int} (h : DatIn news v (rowD a b c e)) : ∃ (x : Addr) (n : Nat) (t1 t2 t3 t4 : Tok), v = .ref x ∧ (x, tupObj [Value.int a t1, Value.int b t2, Value.int c t3, Value.int e t4] n) ∈ news := by
  cases h with
  | tuple hm hr =>
    cases hr with
    | cons h1 hr => cases hr with
      | cons h2 hr => cases hr with
        | cons h3 hr => cases hr with
          | cons h4 hr =>
            cases hr; cases h1; cases h2; cases h3; cases h4
            exact ⟨_, _, _, _, _, _, rfl, hm⟩
theorem row_dat {news : List (Addr × Obj)} {x : Addr} {n : Nat} {a b c e : Int} {t1 t2 t3 t4 : Tok} (h : (x, tupObj [Value.int a t1, Value.int b t2, Value.int c t3, Value.int e t4] n) ∈ news) : DatIn news (.ref x) (rowD a b c e) :=
  .tuple h (.cons (.int _ _) (.cons (.int _ _) (.cons (.int _ _) (.cons (.int _ _) .nil))))
theorem datall_concat {news : List (Addr × Obj)} {d : Dat} : ∀ {ds : List Dat} {ag : List Value}, DatAll news ag (ds ++ [d]) → ∃ vs v, ag = vs ++ [v] ∧ DatAll news vs ds ∧ DatIn news v d
  | [], _, h => by
    cases h with
    | cons h r => cases r; exact ⟨[], _, rfl, .nil, h⟩
  | _ :: _, _, h => by
    cases h with
    | cons h r =>
      obtain ⟨vs, v, rfl, hr, hd⟩ := datall_concat r
      exact ⟨_ :: vs, v, rfl, .cons h hr, hd⟩
theorem off1_mem {D : Addr} : ∀ {l : List (Addr × Obj)}, LCg.Off1 D l → ∀ p ∈ l, p.1 ≠ D
  | [], _, _, h => nomatch h
  | _ :: _, x, p, h => by
    rcases List.mem_cons.mp h with rfl | h
    · exact x.1
    · exact off1_mem x.2 p h
theorem fresh_cons {d : Addr} {tl : List (Addr × Obj)} {q : Addr × Obj} {add : List (Addr × Obj)} (h : @Ne Nat d q.1 ∧ ∀ z ∈ tl, z.1 ≠ q.1) (k : ∀ q ∈ add, @Ne Nat d q.1 ∧ ∀ z ∈ tl, z.1 ≠ q.1) : ∀ p ∈ q :: add, @Ne Nat d p.1 ∧ ∀ z ∈ tl, z.1 ≠ p.1 := fun p hp => by
  rcases List.mem_cons.mp hp with rfl | hp
  · exact h
  · exact k p hp
theorem re_led {h₀ h : Heap} {L dw : Addr} {all : List (Addr × Obj)} {G : Prop} (front tl2 : List (Addr × Obj)) (N : News h₀ L h all) (sub : ∀ p ∈ front ++ tl2, p ∈ all) (off : ∀ p ∈ tl2, p.1 ≠ dw)
    (k : ∀ tl3, (∀ p ∈ tl2, p ∈ tl3) → (∀ p ∈ tl3, p ∈ tl2) → OwnOff tl3 [dw] → News h₀ L h (front ++ tl3) → G) : G :=
  k tl2 (fun _ h => h) (fun _ h => h) (fun p hp b hb => by rw [List.mem_singleton.mp hb]; exact off p hp) fun p hp => N p (sub p hp)
theorem re_ledA {h₀ h : Heap} {L : Addr} {adr : List Addr} {all : List (Addr × Obj)} {G : Prop} (front tl2 : List (Addr × Obj)) (N : News h₀ L h all) (sub : ∀ p ∈ front ++ tl2, p ∈ all) (off : OwnOff tl2 adr)
    (k : ∀ tl3, (∀ p ∈ tl2, p ∈ tl3) → (∀ p ∈ tl3, p ∈ tl2) → OwnOff tl3 adr → News h₀ L h (front ++ tl3) → G) : G :=
  k tl2 (fun _ h => h) (fun _ h => h) off fun p hp => N p (sub p hp)
theorem off_app {tl own : List (Addr × Obj)} {a b c d e x1 x2 x3 x4 : Addr} {r : List Addr} (h : OwnOff tl ([a, b, c, d, e] ++ r)) (k : OwnOff own [a, x1, x2, x3, x4, b, c, d, e]) : OwnOff (tl ++ own) [a, b, c, d, e] := by
  intro p hp z hz
  rcases List.mem_append.mp hp with hp | hp
  · exact h p hp z (List.mem_append_left _ hz)
  · refine k p hp z ?_
    simp only [List.mem_cons, List.not_mem_nil, or_false] at hz ⊢
    rcases hz with rfl | rfl | rfl | rfl | rfl <;> simp
theorem off_cons {dw : Addr} {q : Addr × Obj} {l : List (Addr × Obj)} (h : q.1 ≠ dw) (k : ∀ p ∈ l, p.1 ≠ dw) : ∀ p ∈ q :: l, p.1 ≠ dw := fun p hp => by
  rcases List.mem_cons.mp hp with rfl | hp
  · exact h
  · exact k p hp
theorem filter_pre {p : Dat → Bool} {es es0 : List Dat} {d : Dat} (h : es.filter p = es0 ++ [d]) : es0.filter p = es0 :=
  List.filter_eq_self.mpr fun x hx => (List.mem_filter.mp (h ▸ List.mem_append.mpr (.inl hx) : x ∈ es.filter p)).2
theorem pick_last {xs : List Value} {v : Value} : (slicePick (xs ++ [v]).toArray none (some (-1)) none).toList = xs := by
  have h := slicePick_butLast (xs ++ [v]).toArray 1 (Nat.le_refl _)
  have e : (-((1 : Nat) : Int)) = -1 := rfl
  rw [e] at h
  rw [h]
  simp
theorem pick_nil : (slicePick ([] : List Value).toArray none (some (-1)) none).toList = ([] : List Value) := by
  have h := slicePick_butLast ([] : List Value).toArray 1 (Nat.le_refl _)
  have e : (-((1 : Nat) : Int)) = -1 := rfl
  rw [e] at h
  rw [h]
  simp
def killRow (hit : Bool) (o : Int) (row : Dat) (F : List Dat) : Dat := if hit then F.getLastD (rowD o 1 1 0) else row
def killE (hit : Bool) (F : List Dat) : List Dat := if hit then F.dropLast else F
theorem allLt_mem {D : Addr} : ∀ {l : List (Addr × Obj)}, AllLt D l → ∀ p ∈ l, p.1 < D
  | [], _, _, h => nomatch h
  | _ :: _, x, p, h => by
    rcases List.mem_cons.mp h with rfl | h
    · exact x.1
    · exact allLt_mem x.2 p h
theorem fresh_lt {D a b c d e : Addr} {tl : List (Addr × Obj)} (h : a < D ∧ b < D ∧ c < D ∧ d < D ∧ e < D ∧ AllLt D tl) : @Ne Nat a D ∧ @Ne Nat b D ∧ @Ne Nat c D ∧ @Ne Nat d D ∧ @Ne Nat e D ∧ ∀ z ∈ tl, z.1 ≠ D :=
  ⟨Nat.ne_of_lt h.1, Nat.ne_of_lt h.2.1, Nat.ne_of_lt h.2.2.1, Nat.ne_of_lt h.2.2.2.1, Nat.ne_of_lt h.2.2.2.2.1, fun z hz => Nat.ne_of_lt (allLt_mem h.2.2.2.2.2 z hz)⟩
theorem fresh_nil {d : Addr} {tl : List (Addr × Obj)} : ∀ p ∈ ([] : List (Addr × Obj)), @Ne Nat d p.1 ∧ ∀ z ∈ tl, z.1 ≠ p.1 := fun _ h => nomatch h
section
variable {prog : Program} {w : World} {A : Around} {E : Value → Shared → Prop} {s : Shared} {h₀ : Heap} {L a b : Addr} {m : Str → Option Value} {news news' L9 : List (Addr × Obj)} {xs ys : List Value} {ds : List Dat} {na nb : Nat} {Q : Value → Shared → Prop}
theorem cat_rows (F : Fr h₀ L s.heap m) (N : News h₀ L s.heap news) (ma : (a, listOf xs.toArray na) ∈ news) (mb : (b, listOf ys.toArray nb) ∈ news) (hz : xs.length + ys.length ≤ 100000)
    (h : ∀ D h', Fr h₀ L h' m → News h₀ L h' ((D, listOf (xs ++ ys).toArray 0) :: news) → (∀ p ∈ news, p.1 < D) → Q (.ref D) { s with heap := h' }) :
    wpAny (model prog w) A (binaryOp .Add (.ref a) (.ref b)) Q E s :=
  kmk_add_lit F N (N.isList ma) (N.isList mb) (by simp) h (by simp only [List.toList_toArray, PySem.sizeLine_eq]; omega)
theorem ne_nil (N : News h₀ L s.heap news) (ma : (a, listOf xs.toArray na) ∈ news) (mb : (b, listOf ([] : List Value).toArray nb) ∈ news) (hD : DatAll L9 xs ds) (hsub : ∀ p ∈ L9, p ∈ news) (hr : ∀ d ∈ ds, IsRow d) (hu : A.units + 64 < cLine)
    (h : Q (.bool (!ds.isEmpty)) s) : wpAny (model prog w) A (compareOp .NotEq (.ref a) (.ref b)) Q E s := by
  refine kqd_ne (ds := ds) (es := []) (ys := []) (n₂ := []) N ma rfl rfl hD hsub mb rfl rfl .nil (fun _ h => nomatch h) (fun d hd => (hr d hd).ok) (fun _ h => nomatch h) hu ?_
  cases ds <;> simpa using h
theorem len_led {l : Addr} {k : Int} (N : News h₀ L s.heap news) (hm : (l, listOf xs.toArray na) ∈ news) (hk : (xs.length : Int) = k) (hfit : k < 2 ^ 63)
    (h : Q (.int k (s.toks + 1)) { s with toks := s.toks + 1 + 1 }) : wpAny (model prog w) A (call (.builtin "len") [.ref l]) Q E s := by
  refine len_list (N.isList hm) (by rw [List.size_toArray, hk]; exact hfit) ?_
  rw [List.size_toArray, hk]
  exact h
theorem ne_dat {v u : Value} {d e : Dat} (N : News h₀ L s.heap news) (Dx : DatIn news v d) (Dy : DatIn news u e) (ox : kqdOk 8 d = true) (oy : kqdOk 8 e = true) (hu : A.units + 64 < cLine) (he : d = e) (h : Q (.bool false) s) : wpAny (model prog w) A (compareOp .NotEq v u) Q E s := by
  obtain ⟨as, ra⟩ := kqd_in N 8 Dx ox
  obtain ⟨bs, rb⟩ := kqd_in N 8 Dy oy
  have la := kqd_lay 8 d ox
  have lb := kqd_lay 8 e oy
  have e : PyData.eqv (kqdP d) (kqdP e) = true := (kqd_eqv 8 d e 8 ox oy).mpr he
  refine ne_dataH ra rb ?_ ?_ hu (by rw [e]; exact h)
  · unfold SeqAt.shaped; rw [la.1, Bool.true_and]; exact decide_eq_true (Nat.le_trans la.2 (by decide))
  · unfold SeqAt.shaped; rw [lb.1, Bool.true_and]; exact decide_eq_true (Nat.le_trans lb.2 (by decide))
theorem eq_dat {v u : Value} {d e : Dat} (N : News h₀ L s.heap news) (Dx : DatIn news v d) (Dy : DatIn news u e) (ox : kqdOk 8 d = true) (oy : kqdOk 8 e = true) (hu : A.units + 64 < cLine) (he : d = e) (h : Q (.bool true) s) : wpAny (model prog w) A (compareOp .Eq v u) Q E s := by
  obtain ⟨as, ra⟩ := kqd_in N 8 Dx ox
  obtain ⟨bs, rb⟩ := kqd_in N 8 Dy oy
  have la := kqd_lay 8 d ox
  have lb := kqd_lay 8 e oy
  have e : PyData.eqv (kqdP d) (kqdP e) = true := (kqd_eqv 8 d e 8 ox oy).mpr he
  refine eq_dataH ra rb ?_ ?_ hu (by rw [e]; exact h)
  · unfold SeqAt.shaped; rw [la.1, Bool.true_and]; exact decide_eq_true (Nat.le_trans la.2 (by decide))
  · unfold SeqAt.shaped; rw [lb.1, Bool.true_and]; exact decide_eq_true (Nat.le_trans lb.2 (by decide))
theorem ne_nilD (N : News h₀ L s.heap news) (ma : (a, listOf xs.toArray na) ∈ news) (mb : (b, listOf ([] : List Value).toArray nb) ∈ news) (hD : DatAll [] xs ds) (hr : ∀ d ∈ ds, kqdOk 8 d = true) (hu : A.units + 64 < cLine)
    (h : Q (.bool (!ds.isEmpty)) s) : wpAny (model prog w) A (compareOp .NotEq (.ref a) (.ref b)) Q E s := by
  refine kqd_ne (ds := ds) (es := []) (ys := []) (n₁ := []) (n₂ := []) N ma rfl rfl hD (List.forall_mem_nil _) mb rfl rfl .nil (fun _ h => nomatch h) hr (fun _ h => nomatch h) hu ?_
  cases ds <;> simpa using h
theorem eq_nil (N : News h₀ L s.heap news) (ma : (a, listOf xs.toArray na) ∈ news) (mb : (b, listOf ([] : List Value).toArray nb) ∈ news) (hD : DatAll L9 xs ds) (hsub : ∀ p ∈ L9, p ∈ news) (hr : ∀ d ∈ ds, IsRow d) (hu : A.units + 64 < cLine)
    (h : Q (.bool ds.isEmpty) s) : wpAny (model prog w) A (compareOp .Eq (.ref a) (.ref b)) Q E s := by
  refine kqd_eq (ds := ds) (es := []) (ys := []) (n₂ := []) N ma rfl rfl hD hsub mb rfl rfl .nil (fun _ h => nomatch h) (fun d hd => (hr d hd).ok) (fun _ h => nomatch h) hu ?_
  cases ds <;> simpa using h
theorem ne_rows {ka kb : Nat} {es : List Dat} {n₁ n₂ : List (Addr × Obj)} (N : News h₀ L s.heap news) (ma : (a, listOf xs.toArray ka) ∈ news) (Da : DatAll n₁ xs ds) (sa : ∀ p ∈ n₁, p ∈ news)
    (mb : (b, listOf ys.toArray kb) ∈ news) (Db : DatAll n₂ ys es) (sb : ∀ p ∈ n₂, p ∈ news)
    (ha : ∀ d ∈ ds, IsRow d) (hb : ∀ d ∈ es, IsRow d) (hu : A.units + 64 < cLine) (e : ds = es) (h : Q (.bool false) s) : wpAny (model prog w) A (compareOp .NotEq (.ref a) (.ref b)) Q E s := by
  refine kqd_ne N ma rfl rfl Da sa mb rfl rfl Db sb (fun d hd => (ha d hd).ok) (fun d hd => (hb d hd).ok) hu ?_
  simpa [e] using h
theorem item_at {value slice : PySem.Expr} {l : Addr} {k : Int} {u : Tok} {v : Value} (N : News h₀ L s.heap news) (hm : (l, listOf xs.toArray na) ∈ news) (h0 : 0 ≤ k) (hfit : k < 2 ^ 63) (hx : xs[k.toNat]? = some v) (h : Q v s)
    (hs : subscripted slice false (.ref l) (.int k u) = operate [.ref l, .int k u] (getItem (.ref l) (.int k u)) := by with_unfolding_all rfl) :
    wpAny (model prog w) A (subscriptTail value slice (.ref l) (.int k u)) Q E s :=
  tail_any (N.isList hm).typeIs slot_list_getitem.lookup (wpAny_getItem_list (N.isList hm) h0 hfit (by simpa using hx) h) hs
theorem item_last {value slice : PySem.Expr} {l : Addr} {u : Tok} {v : Value} (N : News h₀ L s.heap news) (hm : (l, listOf (xs ++ [v]).toArray na) ∈ news) (h : Q v s)
    (hs : subscripted slice false (.ref l) (.int (-1) u) = operate [.ref l, .int (-1) u] (getItem (.ref l) (.int (-1) u)) := by with_unfolding_all rfl) :
    wpAny (model prog w) A (subscriptTail value slice (.ref l) (.int (-1) u)) Q E s :=
  tail_any (N.isList hm).typeIs slot_list_getitem.lookup (wpAny_getItem_list_neg (N.isList hm) (by omega) (by simp; omega) (by omega) (x := v) (by
    have e : (-1 + (((xs ++ [v]).toArray.size : Nat) : Int)).toNat = xs.length := by simp; omega
    rw [e]; simp) h) hs
theorem pop_last {l : Addr} {v : Value} (F : Fr h₀ L s.heap m) (N : News h₀ L s.heap news) (U : Upd l (listOf (xs ++ [v]).toArray na) (listOf xs.toArray (na + 1)) news news') (hz : xs.length ≤ 100000)
    (h : ∀ h', Fr h₀ L h' m → News h₀ L h' news' → Q v { s with heap := h' }) : wpAny (model prog w) A (PySem.call (.builtin "list.pop") [.ref l]) Q E s :=
  kl_pop F N (p := xs) (y := v) (by simpa using kpa_last v xs) U (by simp only [List.toList_toArray, List.length_append, List.length_cons, List.length_nil, PySem.sizeLine_eq]; omega) h
end

abbrev winE (P : Params) (k0 k1 k2 k3 k4 k5 k6 k7 k8 k9 k10 k11 k12 k13 k14 k15 : Tok) (t0 t1 t2 : Tok) (ch : Addr) (t4 t5 t6 t7 : Tok) (t13 : Tok) (b : Int) (bt : Tok) (st : Int) (stt : Tok) (p : Int) (pt : Tok) (h : Int) (ht : Tok) (ded : Bool) (we wl : Addr) : List DictEntry := [
  { hash := PyData.keyHash P (Str.ofString "number"), key := Value.str (Str.ofString "number") k0, val := Value.int 1 t0 },
  { hash := PyData.keyHash P (Str.ofString "sort"), key := Value.str (Str.ofString "sort") k1, val := Value.int 0 t1 },
  { hash := PyData.keyHash P (Str.ofString "parent"), key := Value.str (Str.ofString "parent") k2, val := Value.int 0 t2 },
  { hash := PyData.keyHash P (Str.ofString "children"), key := Value.str (Str.ofString "children") k3, val := Value.ref ch },
  { hash := PyData.keyHash P (Str.ofString "left"), key := Value.str (Str.ofString "left") k4, val := Value.int 0 t4 },
  { hash := PyData.keyHash P (Str.ofString "top"), key := Value.str (Str.ofString "top") k5, val := Value.int 0 t5 },
  { hash := PyData.keyHash P (Str.ofString "width"), key := Value.str (Str.ofString "width") k6, val := Value.int 20 t6 },
  { hash := PyData.keyHash P (Str.ofString "height"), key := Value.str (Str.ofString "height") k7, val := Value.int 8 t7 },
  { hash := PyData.keyHash P (Str.ofString "buffer"), key := Value.str (Str.ofString "buffer") k8, val := Value.int b bt },
  { hash := PyData.keyHash P (Str.ofString "start"), key := Value.str (Str.ofString "start") k9, val := Value.int st stt },
  { hash := PyData.keyHash P (Str.ofString "point"), key := Value.str (Str.ofString "point") k10, val := Value.int p pt },
  { hash := PyData.keyHash P (Str.ofString "hscroll"), key := Value.str (Str.ofString "hscroll") k11, val := Value.int h ht },
  { hash := PyData.keyHash P (Str.ofString "is_dedicated"), key := Value.str (Str.ofString "is_dedicated") k12, val := Value.bool ded },
  { hash := PyData.keyHash P (Str.ofString "use_time"), key := Value.str (Str.ofString "use_time") k13, val := Value.int 1 t13 },
  { hash := PyData.keyHash P (Str.ofString "earlier"), key := Value.str (Str.ofString "earlier") k14, val := Value.ref we },
  { hash := PyData.keyHash P (Str.ofString "later"), key := Value.str (Str.ofString "later") k15, val := Value.ref wl }]
abbrev treeE (P : Params) (j0 j1 j2 j3 j4 j5 j6 : Tok) (dws : Addr) (u1 u2 u3 u4 u5 u6 : Tok) : List DictEntry := [
  { hash := PyData.keyHash P (Str.ofString "windows"), key := Value.str (Str.ofString "windows") j0, val := Value.ref dws },
  { hash := PyData.keyHash P (Str.ofString "last"), key := Value.str (Str.ofString "last") j1, val := Value.int 1 u1 },
  { hash := PyData.keyHash P (Str.ofString "clock"), key := Value.str (Str.ofString "clock") j2, val := Value.int 1 u2 },
  { hash := PyData.keyHash P (Str.ofString "least_width"), key := Value.str (Str.ofString "least_width") j3, val := Value.int 3 u3 },
  { hash := PyData.keyHash P (Str.ofString "least_height"), key := Value.str (Str.ofString "least_height") j4, val := Value.int 2 u4 },
  { hash := PyData.keyHash P (Str.ofString "root"), key := Value.str (Str.ofString "root") j5, val := Value.int 1 u5 },
  { hash := PyData.keyHash P (Str.ofString "selected"), key := Value.str (Str.ofString "selected") j6, val := Value.int 1 u6 }]
theorem put_b {P : Params} {k0 k1 k2 k3 k4 k5 k6 k7 k8 k9 k10 k11 k12 k13 k14 k15 : Tok} {t0 t1 t2 t4 t5 t6 t7 t13 : Tok} {ch : Addr} {b st p h : Int} {bt stt pt ht : Tok} {ded : Bool} {we wl : Addr} {hs : Int} {ky : Value} {x : Int} {xt : Tok} : (putL (Str.ofString "buffer") hs ky (.int x xt) (winE P k0 k1 k2 k3 k4 k5 k6 k7 k8 k9 k10 k11 k12 k13 k14 k15 t0 t1 t2 ch t4 t5 t6 t7 t13 b bt st stt p pt h ht ded we wl), putN (Str.ofString "buffer") (winE P k0 k1 k2 k3 k4 k5 k6 k7 k8 k9 k10 k11 k12 k13 k14 k15 t0 t1 t2 ch t4 t5 t6 t7 t13 b bt st stt p pt h ht ded we wl) 16) = ((winE P k0 k1 k2 k3 k4 k5 k6 k7 k8 k9 k10 k11 k12 k13 k14 k15 t0 t1 t2 ch t4 t5 t6 t7 t13 x xt st stt p pt h ht ded we wl), 16) := by kernel_rfl
theorem put_st {P : Params} {k0 k1 k2 k3 k4 k5 k6 k7 k8 k9 k10 k11 k12 k13 k14 k15 : Tok} {t0 t1 t2 t4 t5 t6 t7 t13 : Tok} {ch : Addr} {b st p h : Int} {bt stt pt ht : Tok} {ded : Bool} {we wl : Addr} {hs : Int} {ky : Value} {x : Int} {xt : Tok} : (putL (Str.ofString "start") hs ky (.int x xt) (winE P k0 k1 k2 k3 k4 k5 k6 k7 k8 k9 k10 k11 k12 k13 k14 k15 t0 t1 t2 ch t4 t5 t6 t7 t13 b bt st stt p pt h ht ded we wl), putN (Str.ofString "start") (winE P k0 k1 k2 k3 k4 k5 k6 k7 k8 k9 k10 k11 k12 k13 k14 k15 t0 t1 t2 ch t4 t5 t6 t7 t13 b bt st stt p pt h ht ded we wl) 16) = ((winE P k0 k1 k2 k3 k4 k5 k6 k7 k8 k9 k10 k11 k12 k13 k14 k15 t0 t1 t2 ch t4 t5 t6 t7 t13 b bt x xt p pt h ht ded we wl), 16) := by kernel_rfl
theorem put_p {P : Params} {k0 k1 k2 k3 k4 k5 k6 k7 k8 k9 k10 k11 k12 k13 k14 k15 : Tok} {t0 t1 t2 t4 t5 t6 t7 t13 : Tok} {ch : Addr} {b st p h : Int} {bt stt pt ht : Tok} {ded : Bool} {we wl : Addr} {hs : Int} {ky : Value} {x : Int} {xt : Tok} : (putL (Str.ofString "point") hs ky (.int x xt) (winE P k0 k1 k2 k3 k4 k5 k6 k7 k8 k9 k10 k11 k12 k13 k14 k15 t0 t1 t2 ch t4 t5 t6 t7 t13 b bt st stt p pt h ht ded we wl), putN (Str.ofString "point") (winE P k0 k1 k2 k3 k4 k5 k6 k7 k8 k9 k10 k11 k12 k13 k14 k15 t0 t1 t2 ch t4 t5 t6 t7 t13 b bt st stt p pt h ht ded we wl) 16) = ((winE P k0 k1 k2 k3 k4 k5 k6 k7 k8 k9 k10 k11 k12 k13 k14 k15 t0 t1 t2 ch t4 t5 t6 t7 t13 b bt st stt x xt h ht ded we wl), 16) := by kernel_rfl
theorem put_h {P : Params} {k0 k1 k2 k3 k4 k5 k6 k7 k8 k9 k10 k11 k12 k13 k14 k15 : Tok} {t0 t1 t2 t4 t5 t6 t7 t13 : Tok} {ch : Addr} {b st p h : Int} {bt stt pt ht : Tok} {ded : Bool} {we wl : Addr} {hs : Int} {ky : Value} {x : Int} {xt : Tok} : (putL (Str.ofString "hscroll") hs ky (.int x xt) (winE P k0 k1 k2 k3 k4 k5 k6 k7 k8 k9 k10 k11 k12 k13 k14 k15 t0 t1 t2 ch t4 t5 t6 t7 t13 b bt st stt p pt h ht ded we wl), putN (Str.ofString "hscroll") (winE P k0 k1 k2 k3 k4 k5 k6 k7 k8 k9 k10 k11 k12 k13 k14 k15 t0 t1 t2 ch t4 t5 t6 t7 t13 b bt st stt p pt h ht ded we wl) 16) = ((winE P k0 k1 k2 k3 k4 k5 k6 k7 k8 k9 k10 k11 k12 k13 k14 k15 t0 t1 t2 ch t4 t5 t6 t7 t13 b bt st stt p pt x xt ded we wl), 16) := by kernel_rfl
theorem put_ded {P : Params} {k0 k1 k2 k3 k4 k5 k6 k7 k8 k9 k10 k11 k12 k13 k14 k15 : Tok} {t0 t1 t2 t4 t5 t6 t7 t13 : Tok} {ch : Addr} {b st p h : Int} {bt stt pt ht : Tok} {ded : Bool} {we wl : Addr} {hs : Int} {ky : Value} {xb : Bool} : (putL (Str.ofString "is_dedicated") hs ky (.bool xb) (winE P k0 k1 k2 k3 k4 k5 k6 k7 k8 k9 k10 k11 k12 k13 k14 k15 t0 t1 t2 ch t4 t5 t6 t7 t13 b bt st stt p pt h ht ded we wl), putN (Str.ofString "is_dedicated") (winE P k0 k1 k2 k3 k4 k5 k6 k7 k8 k9 k10 k11 k12 k13 k14 k15 t0 t1 t2 ch t4 t5 t6 t7 t13 b bt st stt p pt h ht ded we wl) 16) = ((winE P k0 k1 k2 k3 k4 k5 k6 k7 k8 k9 k10 k11 k12 k13 k14 k15 t0 t1 t2 ch t4 t5 t6 t7 t13 b bt st stt p pt h ht xb we wl), 16) := by kernel_rfl
theorem put_we {P : Params} {k0 k1 k2 k3 k4 k5 k6 k7 k8 k9 k10 k11 k12 k13 k14 k15 : Tok} {t0 t1 t2 t4 t5 t6 t7 t13 : Tok} {ch : Addr} {b st p h : Int} {bt stt pt ht : Tok} {ded : Bool} {we wl : Addr} {hs : Int} {ky : Value} {xa : Addr} : (putL (Str.ofString "earlier") hs ky (.ref xa) (winE P k0 k1 k2 k3 k4 k5 k6 k7 k8 k9 k10 k11 k12 k13 k14 k15 t0 t1 t2 ch t4 t5 t6 t7 t13 b bt st stt p pt h ht ded we wl), putN (Str.ofString "earlier") (winE P k0 k1 k2 k3 k4 k5 k6 k7 k8 k9 k10 k11 k12 k13 k14 k15 t0 t1 t2 ch t4 t5 t6 t7 t13 b bt st stt p pt h ht ded we wl) 16) = ((winE P k0 k1 k2 k3 k4 k5 k6 k7 k8 k9 k10 k11 k12 k13 k14 k15 t0 t1 t2 ch t4 t5 t6 t7 t13 b bt st stt p pt h ht ded xa wl), 16) := by kernel_rfl
theorem put_wl {P : Params} {k0 k1 k2 k3 k4 k5 k6 k7 k8 k9 k10 k11 k12 k13 k14 k15 : Tok} {t0 t1 t2 t4 t5 t6 t7 t13 : Tok} {ch : Addr} {b st p h : Int} {bt stt pt ht : Tok} {ded : Bool} {we wl : Addr} {hs : Int} {ky : Value} {xa : Addr} : (putL (Str.ofString "later") hs ky (.ref xa) (winE P k0 k1 k2 k3 k4 k5 k6 k7 k8 k9 k10 k11 k12 k13 k14 k15 t0 t1 t2 ch t4 t5 t6 t7 t13 b bt st stt p pt h ht ded we wl), putN (Str.ofString "later") (winE P k0 k1 k2 k3 k4 k5 k6 k7 k8 k9 k10 k11 k12 k13 k14 k15 t0 t1 t2 ch t4 t5 t6 t7 t13 b bt st stt p pt h ht ded we wl) 16) = ((winE P k0 k1 k2 k3 k4 k5 k6 k7 k8 k9 k10 k11 k12 k13 k14 k15 t0 t1 t2 ch t4 t5 t6 t7 t13 b bt st stt p pt h ht ded we xa), 16) := by kernel_rfl
theorem st_ref {M : Model} {A : Around} {E : Value → Shared → Prop} {s : Shared} {Q : Value → Shared → Prop} {n : Addr} {as ks} (hn : n ∈ ([270, 189, 303, 298, 276, 281, 286, 291] : List Nat)) (h : wpAny M A (PySem.call (.ref n) as ks) Q E s) : wpAny M A (PySem.call (.ref n) as ks) Q E s := h
theorem st_ty {M : Model} {A : Around} {E : Value → Shared → Prop} {s : Shared} {Q : Value → Shared → Prop} {as ks} (h : wpAny M A (PySem.call (.type "list") as ks) Q E s) : wpAny M A (PySem.call (.type "list") as ks) Q E s := h
theorem st_lam {M : Model} {A : Around} {E : Value → Shared → Prop} {s : Shared} {Q : Value → Shared → Prop} {a b c d env} (h : wpAny M A (eval (.Lambda a b c d) env) Q E s) : wpAny M A (eval (.Lambda a b c d) env) Q E s := h
theorem st_lc {M : Model} {A : Around} {E : Value → Shared → Prop} {s : Shared} {Q : Value → Shared → Prop} {a b c d env} (h : wpAny M A (eval (.ListComp a b c d) env) Q E s) : wpAny M A (eval (.ListComp a b c d) env) Q E s := h
theorem st_alc {M : Model} {A : Around} {E : Value → Shared → Prop} {s : Shared} {Q : Flow → Shared → Prop} {a b c d e f g env} (h : wpAny M A (exec (.Assign [.Name a b] (.ListComp c d e f) g) env) Q E s) : wpAny M A (exec (.Assign [.Name a b] (.ListComp c d e f) g) env) Q E s := h
theorem st_add {M : Model} {A : Around} {E : Value → Shared → Prop} {s : Shared} {Q : Value → Shared → Prop} {a b} (h : wpAny M A (binaryOp Operator.Add (.ref a) (.ref b)) Q E s) : wpAny M A (binaryOp Operator.Add (.ref a) (.ref b)) Q E s := h
theorem st_ne {M : Model} {A : Around} {E : Value → Shared → Prop} {s : Shared} {Q : Value → Shared → Prop} {a b} (h : wpAny M A (compareOp CmpOp.NotEq (.ref a) (.ref b)) Q E s) : wpAny M A (compareOp CmpOp.NotEq (.ref a) (.ref b)) Q E s := h
theorem st_eq {M : Model} {A : Around} {E : Value → Shared → Prop} {s : Shared} {Q : Value → Shared → Prop} {a b} (h : wpAny M A (compareOp CmpOp.Eq (.ref a) (.ref b)) Q E s) : wpAny M A (compareOp CmpOp.Eq (.ref a) (.ref b)) Q E s := h
theorem st_sub {M : Model} {A : Around} {E : Value → Shared → Prop} {s : Shared} {Q : Value → Shared → Prop} {n p sl a i t} (hn : n ∈ ([Str.ofString "again", Str.ofString "once_shown", Str.ofString "earlier", Str.ofString "later", Str.ofString "live"] : List Str)) (h : wpAny M A (subscriptTail (.Name n p) sl (.ref a) (.int i t)) Q E s) : wpAny M A (subscriptTail (.Name n p) sl (.ref a) (.int i t)) Q E s := h
theorem st_att {M : Model} {A : Around} {E : Value → Shared → Prop} {s : Shared} {Q : Value → Shared → Prop} {e n p sl a i t} (hn : n ∈ ([Str.ofString "earlier", Str.ofString "later"] : List Str)) (h : wpAny M A (subscriptTail (.Attribute e n p) sl (.ref a) (.int i t)) Q E s) : wpAny M A (subscriptTail (.Attribute e n p) sl (.ref a) (.int i t)) Q E s := h
theorem st_sl {M : Model} {A : Around} {E : Value → Shared → Prop} {s : Shared} {Q : Value → Shared → Prop} {e a b c d x y} (h : wpAny M A (subscriptTail e (.Slice a b c d) (.ref x) (.ref y)) Q E s) : wpAny M A (subscriptTail e (.Slice a b c d) (.ref x) (.ref y)) Q E s := h
theorem st_it {M : Model} {A : Around} {E : Value → Shared → Prop} {s : Shared} {Q : Value → Shared → Prop} {v} (h : wpAny M A (pyIter v) Q E s) : wpAny M A (pyIter v) Q E s := h
theorem st_tup {M : Model} {A : Around} {E : Value → Shared → Prop} {s : Shared} {Q : Value → Shared → Prop} {v} (h : wpAny M A (newTuple v) Q E s) : wpAny M A (newTuple v) Q E s := h
theorem st_at {M : Model} {A : Around} {E : Value → Shared → Prop} {s : Shared} {Q : Value → Shared → Prop} {e n p sl a i t} (h : wpAny M A (subscriptTail (.Attribute e n p) sl (.ref a) (.int i t)) Q E s) : wpAny M A (subscriptTail (.Attribute e n p) sl (.ref a) (.int i t)) Q E s := h
theorem st_us {M : Model} {A : Around} {E : Value → Shared → Prop} {s : Shared} {Q : Value → Shared → Prop} {p sl a i t} (h : wpAny M A (subscriptTail (.Name (Str.ofString "_") p) sl (.ref a) (.int i t)) Q E s) : wpAny M A (subscriptTail (.Name (Str.ofString "_") p) sl (.ref a) (.int i t)) Q E s := h
theorem st_src {a b c d e f g i j k l m n o p} (h : LCt.CompSrcT a b c d e f g i j k l m n o p) : LCt.CompSrcT a b c d e f g i j k l m n o p := h

local macro_rules | `(tactic| k_put) => `(tactic| with_reducible first | exact put_b | exact put_st | exact put_p | exact put_h | exact put_ded | exact put_we | exact put_wl)
local macro_rules | `(tactic| walk_at "call builtin:dict.get") => `(tactic| (k_here; k_dflt (refine kdg_get2 (knd := PySem.intKind _ _) (by k_asm) (by first | k_mem | walk_at "MINE mem") (by k_asm) (by k_asm) (intKind_is _ _ _ _) (some _) (by rfl) ?_); (try dsimp only [Option.getD])))
local macro_rules | `(tactic| walk_at "subscriptTail") => `(tactic| (k_here; (with_reducible first | refine st_at ?_ | refine st_us ?_); k_dflt (refine kda_item (knd := PySem.intKind _ _) (by k_asm) (by first | k_mem | walk_at "MINE mem") (by k_asm) (intKind_is _ _ _ _) (by rfl) ?_)))
local macro_rules | `(tactic| k_room) => `(tactic| first | ((try simp only [depth_under_make, depth_under_kw, depth_in1, depth_deeper, depth_caller]); decide) | ((try simp only [depth_under_make, depth_under_kw, depth_in1, depth_deeper, depth_caller]); (unfold recursionLimit at *); omega))
local macro_rules | `(tactic| walk_at "MINE inenterC") => `(tactic| (intro g' L' h' tk' cells' FG' F' N' Y' B' X' T' l1; (try k_lt l1); k_cells Y'; (try simp only [List.cons_append, List.nil_append] at N'); (try dsimp only); (try k_fold)))
local macro_rules | `(tactic| walk_at "MINE inenter") => `(tactic| (intro g' L' h' FG' F' N' B' X' T' kG'; (try dsimp only); (try k_fold)))
local macro_rules | `(tactic| walk_at "MINE stop") => `(tactic| fail_if_success (with_reducible first | refine st_ref (by decide) ?_ | refine st_sub (by decide) ?_ | refine st_att (by decide) ?_ | refine st_ty ?_ | refine st_lam ?_ | refine st_it ?_ | refine st_lc ?_ | refine st_alc ?_ | refine st_tup ?_ | refine st_add ?_ | refine st_ne ?_ | refine st_eq ?_ | refine st_sl ?_ | refine st_src ?_))
local macro_rules | `(tactic| k_ne) => `(tactic| (refine neN ?_; (try dsimp only); first | with_reducible assumption | (refine Ne.symm ?_; with_reducible assumption) | omega))
local macro_rules | `(tactic| walk_at "MINE mem") => `(tactic| first | with_reducible assumption | exact List.Mem.head _ | (refine List.Mem.tail _ ?_; walk_at "MINE mem") | assumption)
local macro_rules | `(tactic| walk_at "MINE sub") => `(tactic| first | exact fun _ h => h | exact List.forall_mem_nil _ | (refine List.forall_mem_cons.mpr ⟨by walk_at "MINE mem", ?_⟩; walk_at "MINE sub") | (intro p hp; walk_at "MINE mem"))

theorem without_call {w : World} {A₀ : Around} {base g0 : Heap} {outer : List Env} {env : Env} {dep un : Nat} {gd : Option (List Code)} {mg mb : Str → Option Value} {mean : ExcName → Option Value} {loose : List Str} {L : Addr} {m : Str → Option Value} {news L9 : List (Addr × Obj)} {s : Shared} {E : Value → Shared → Prop} {Q : Value → Shared → Prop}
    (B : Below A₀ base outer g0) (F : Fr g0 L s.heap m) (X : (Mine.hd.heap_1 w.params).In g0) (N : News g0 L s.heap news) (T : Top topProg loose mean mg mb g0) (hf : env.frame = some L) (hke : env.scope.kind = .function) (hdep : dep + 5 < recursionLimit)
    {l : Addr} {vs : List Value} {n : Nat} {ds : List Dat} (hsub : ∀ p ∈ L9, p ∈ news) (hm : (l, listOf vs.toArray n) ∈ news) (hD : DatAll L9 vs ds) (hrow : ∀ d ∈ ds, IsRow d) (hsz : vs.length ≤ 1000) {b : Int} {t : Tok}
    (h : ∀ D ys h' tk, DatAll L9 ys (ds.filter (rowNe b)) → ys.length ≤ vs.length → Fr g0 L h' m → News g0 L h' ((D, LCg.lst ys) :: news) → LCg.Off1 D news → Q (.ref D) { s with heap := h', toks := tk }) :
    wpAny (model Challenge.rw_np0058_01.row.prog w) ⟨none, dep, some (env :: outer), gd, un⟩ (PySem.call (.ref 270) [.ref l, .int b t] []) Q E s := by
  have hPR : PySem.Challenge.rw_np0058_01 = PySem.Challenge.rw_np0058_01 ∧ Mine.hd.heap_1 = Mine.hd.heap_1 := by
    k_fill
    exact ⟨rfl, rfl⟩
  have hKd := kdMark
  refine wpAny_call ?_
  ((refine' code_defC ?k1 ?k2 ?k3 ?k4 ?k5 ?kA ?kF ?kK ?k6 ?k7 ?k8 ?k9 ?kB ?kD ?_ ?c2 ?c3 ?c4; (case kA => exact rfl); (case kF => first | exact rfl | assumption); (case kK => first | exact rfl | assumption); (case k1 => k_asm); (case k2 => k_asm); (case k3 => k_asm); (case k4 => k_asm); (case k5 => k_asm); (case k6 => k_is); (case k7 => k_is); (case k8 => k_room); (case k9 => first | exact BindsTo.of_eq rfl | exact binds_K (by k_in) rfl (by k_is) rfl rfl rfl | fail "k_enter: no rule for these arguments"); (case kB => exact rfl); (case kD => decide +kernel); (case c2 => exact rfl); (case c3 => exact rfl); (case c4 => exact rfl); k_whole; walk_at "MINE inenterC"))
  rename News _ _ _ _ => N'
  iterate 2 walk1
  refine LCt.ListComp_T (F₀ := by k_asm) (by with_unfolding_all rfl) (by decide) (by rfl) (by decide) (by rfl) ?_
  walk1
  refine LCt.CompSrcT.ledger (by rfl) (by k_asm) (by k_asm) (List.Mem.tail _ hm) (by rw [List.size_toArray, PySem.sizeLine_eq]; omega) ?_
  intro g9
  refine Mine.filt_rest (rowNe b) hD (.inr ⟨_, List.Mem.tail _ hm, rfl, _, rfl⟩) (by rfl) (by rfl) (by decide) ?_ ?_
  · intro v d I oI C oC D m₂ ys h tk E' hd hv hC hx F N off ne
    obtain ⟨r1, r2, r3, r4, rfl⟩ := hrow d hd
    obtain ⟨ra, rn, t1, t2, t3, t4, rfl, rm⟩ := dat_row hv
    replace rm := hsub _ rm
    simp only [LCg.Off3] at off
    repeat' walk1
    exact TestEnd.intro rfl F N fun _ h => h
  · intro ys hys hlen
    intro D h9 tk F N off
    refine leaveK_ F N ?_
    intro kF kN
    exact h D ys h9 tk hys hlen kF (fun p hp => kN p (by rcases List.mem_cons.mp hp with rfl | hp; exact .head _; exact .tail _ (.tail _ hp))) off.2
theorem lawbut_call {w : World} {A₀ : Around} {base g0 : Heap} {outer : List Env} {env : Env} {dep un : Nat} {gd : Option (List Code)} {mg mb : Str → Option Value} {mean : ExcName → Option Value} {loose : List Str} {L : Addr} {m : Str → Option Value} {news L9 : List (Addr × Obj)} {s : Shared} {E : Value → Shared → Prop} {Q : Value → Shared → Prop}
    (B : Below A₀ base outer g0) (F : Fr g0 L s.heap m) (X : (Mine.hd.heap_1 w.params).In g0) (N : News g0 L s.heap news) (T : Top topProg loose mean mg mb g0) (hf : env.frame = some L) (hke : env.scope.kind = .function) (hdep : dep + 5 < recursionLimit)
    {l : Addr} {vs : List Value} {n : Nat} {ds : List Dat} (hsub : ∀ p ∈ L9, p ∈ news) (hm : (l, listOf vs.toArray n) ∈ news) (hD : DatAll L9 vs ds) (hrow : ∀ d ∈ ds, IsRow d) (hsz : vs.length ≤ 1000) {b : Int} {t : Tok}
    (h : ∀ D ys h' tk, DatAll L9 ys (ds.filter (rowNe b)) → ys.length ≤ vs.length → Fr g0 L h' m → News g0 L h' ((D, LCg.lst ys) :: news) → LCg.Off1 D news → Q (.ref D) { s with heap := h', toks := tk }) :
    wpAny (model Challenge.rw_np0058_01.row.prog w) ⟨none, dep, some (env :: outer), gd, un⟩ (PySem.call (.ref 303) [.ref l, .int b t] []) Q E s := by
  have hPR : PySem.Challenge.rw_np0058_01 = PySem.Challenge.rw_np0058_01 ∧ Mine.hd.heap_1 = Mine.hd.heap_1 := by
    k_fill
    exact ⟨rfl, rfl⟩
  have hKd := kdMark
  refine wpAny_call ?_
  ((refine' code_defC ?k1 ?k2 ?k3 ?k4 ?k5 ?kA ?kF ?kK ?k6 ?k7 ?k8 ?k9 ?kB ?kD ?_ ?c2 ?c3 ?c4; (case kA => exact rfl); (case kF => first | exact rfl | assumption); (case kK => first | exact rfl | assumption); (case k1 => k_asm); (case k2 => k_asm); (case k3 => k_asm); (case k4 => k_asm); (case k5 => k_asm); (case k6 => k_is); (case k7 => k_is); (case k8 => k_room); (case k9 => first | exact BindsTo.of_eq rfl | exact binds_K (by k_in) rfl (by k_is) rfl rfl rfl | fail "k_enter: no rule for these arguments"); (case kB => exact rfl); (case kD => decide +kernel); (case c2 => exact rfl); (case c3 => exact rfl); (case c4 => exact rfl); k_whole; walk_at "MINE inenterC"))
  rename News _ _ _ _ => N'
  iterate 2 walk1
  refine LCt.ListComp_T (F₀ := by k_asm) (by with_unfolding_all rfl) (by decide) (by rfl) (by decide) (by rfl) ?_
  walk1
  refine LCt.CompSrcT.ledger (by rfl) (by k_asm) (by k_asm) (List.Mem.tail _ hm) (by rw [List.size_toArray, PySem.sizeLine_eq]; omega) ?_
  intro g9
  refine Mine.filt_rest (rowNe b) hD (.inr ⟨_, List.Mem.tail _ hm, rfl, _, rfl⟩) (by rfl) (by rfl) (by decide) ?_ ?_
  · intro v d I oI C oC D m₂ ys h tk E' hd hv hC hx F N off ne
    obtain ⟨r1, r2, r3, r4, rfl⟩ := hrow d hd
    obtain ⟨ra, rn, t1, t2, t3, t4, rfl, rm⟩ := dat_row hv
    replace rm := hsub _ rm
    simp only [LCg.Off3] at off
    repeat' walk1
    exact TestEnd.intro rfl F N fun _ h => h
  · intro ys hys hlen
    intro D h9 tk F N off
    refine leaveK_ F N ?_
    intro kF kN
    exact h D ys h9 tk hys hlen kF (fun p hp => kN p (by rcases List.mem_cons.mp hp with rfl | hp; exact .head _; exact .tail _ (.tail _ hp))) off.2

theorem draw_call {w : World} {A₀ : Around} {base g0 : Heap} {outer : List Env} {env : Env} {dep un : Nat} {gd : Option (List Code)} {mg mb : Str → Option Value} {mean : ExcName → Option Value} {loose : List Str} {L : Addr} {m : Str → Option Value} {s : Shared} {E : Value → Shared → Prop} {Q : Value → Shared → Prop}
    {dk dl : Addr} {ys : List Value} {ns : List Int} {d : Int} {dt : Tok} {dn : Nat}
    (B : Below A₀ base outer g0) (F : Fr g0 L s.heap m) (X : (Mine.hd.heap_1 w.params).In g0) (N : News g0 L s.heap [(dk, listOf #[.ref dl, .int d dt] dn), (dl, LCg.lst ys)]) (T : Top topProg loose mean mg mb g0) (hf : env.frame = some L) (hke : env.scope.kind = .function) (hdep : dep + 5 < recursionLimit)
    (hne : @Ne Nat dk dl) (hI : IntsAre ys ns) (hlen : ns.length ≤ 63) (hd0 : 0 ≤ d) (hd1 : d ≤ 1000) {k : Int} {t : Tok} (hk0 : 1 ≤ k) (hk1 : k ≤ 64)
    (h : ∀ r t' dt' h' tk, 0 ≤ r → r < k → Fr g0 L h' m → (∀ b o, b ≠ dk → s.heap.get? b = some o → h'.get? b = some o) → h'.get? dk = some (listOf #[.ref dl, .int (d + 1) dt'] dn) → Q (.int r t') { s with heap := h', toks := tk }) :
    wpAny (model Challenge.rw_np0058_01.row.prog w) ⟨none, dep, some (env :: outer), gd, un⟩ (PySem.call (.ref 298) [.ref dk, .int k t] []) Q E s := by
  have hPR : PySem.Challenge.rw_np0058_01 = PySem.Challenge.rw_np0058_01 ∧ Mine.hd.heap_1 = Mine.hd.heap_1 := by
    k_fill
    exact ⟨rfl, rfl⟩
  refine wpAny_call ?_
  ((refine' code_defG ?k1 ?k2 ?k3 ?k4 ?k5 ?kA ?kF ?kK ?k6 ?k7 ?k8 ?k9 ?kB ?_ ?c2 ?c3 ?c4 ?c5; (case kA => exact rfl); (case kF => first | exact rfl | assumption); (case kK => first | exact rfl | assumption); (case k1 => k_asm); (case k2 => k_asm); (case k3 => k_asm); (case k4 => k_asm); (case k5 => k_asm); (case k6 => k_is); (case k7 => k_is); (case k8 => k_room); (case k9 => first | exact BindsTo.of_eq rfl | exact binds_K (by k_in) rfl (by k_is) rfl rfl rfl | fail "k_enter: no rule for these arguments"); (case c5 => decide); (case kB => exact locs rfl); (case c2 => exact rfl); (case c3 => exact rfl); (case c4 => exact rfl); k_whole; intro g' L' h' FG' F' N' B' X' T' kG'; (try dsimp only); (try k_fold)))
  rename GSub _ _ _ => G9
  repeat' (first | (k_unfold; (try dsimp only)) | (((fail_if_success (show LeaveK _ _ _ _ _ _ _))); walk1) | (dsimp only; ((fail_if_success (show LeaveK _ _ _ _ _ _ _))); walk1) | (dsimp only; k_unfold; (try dsimp only)))
  all_goals (
    rename Fr _ _ _ _ => F9
    rename News _ _ _ _ => N9
    refine leaveK_ F9 N9 ?_
    intro kF kN
    refine h _ _ _ _ _ (Int.fmod_nonneg_of_pos _ (by omega)) (Int.fmod_lt_of_pos _ (by omega)) kF (fun b o hb e => ?_) (kN.get (.head _))
    by_cases hbl : b = dl
    · have e1 := N.get (.tail _ (.head _))
      rw [hbl, e1] at e
      rw [hbl, ← e]
      exact kN.get (.tail _ (.head _))
    · exact F9.keep _ _ (G9 b o e (by simp [hb, hbl])))

abbrev lamP (p : Pos) : Arguments := { posonlyargs := [], args := [{ arg := "own", annotation := none, pos := p }], vararg := none, kwonlyargs := [], kw_defaults := [], kwarg := none, defaults := [] }
abbrev lamB (p q r : Pos) : PySem.Expr := .Compare (.Name "own" p) [.In] [.Name "live" q] r
abbrev lamS : Scope := { kind := .function, names := [(Str.ofString "own", .local), (Str.ofString "live", .free)], isGenerator := false, isCoroutine := false, more := [] }
abbrev lamO (nm qual : Str) (p q r u : Pos) (cell : Addr) (pm : Value) (c' : Addr) (ctv : Value) : Obj := kla_obj nm qual (lamP p) (lamB q r u) lamS [(Str.ofString "live", cell)] pm c' ctv
theorem lam_call {w : World} {A₀ : Around} {base g0 : Heap} {outer : List Env} {env : Env} {dep un : Nat} {gd : Option (List Code)} {mg mb : Str → Option Value} {mean : ExcName → Option Value} {loose : List Str} {L : Addr} {m : Str → Option Value} {news : List (Addr × Obj)} {s : Shared} {E : Value → Shared → Prop} {Q : Value → Shared → Prop}
    (B : Below A₀ base outer g0) (F : Fr g0 L s.heap m) (X : (Mine.hd.heap_1 w.params).In g0) (N : News g0 L s.heap news) (T : Top topProg loose mean mg mb g0) (hf : env.frame = some L) (hke : env.scope.kind = .function) (hdep : dep + 5 < recursionLimit) (hun : un + 200 < cLine)
    {nm qual : Str} {p q r u : Pos} {cell f c' live : Addr} {pm ctv : Value} {oc ol : Obj} {vs : Array Value} {tq t : Tok} {lvs : List Value} {ln : Nat} {ns : List Int} {b : Int}
    (hlam : (f, lamO nm qual p q r u cell pm c' ctv) ∈ news) (hc : (c', oc) ∈ news) (hd : oc.data = .fields vs) (hv : vs[1]? = some (.str qual tq))
    (hcell : (cell, ol) ∈ news) (hcd : ol.data = .cell (some (.ref live))) (hlv : (live, listOf lvs.toArray ln) ∈ news) (hD : DatAll [] lvs (ns.map Dat.int)) (hb : b ∈ ns)
    (h : ∀ h' tk, Fr g0 L h' m → News g0 L h' news → Q (.bool true) { s with heap := h', toks := tk }) :
    wpAny (model Challenge.rw_np0058_01.row.prog w) ⟨none, dep, some (env :: outer), gd, un⟩ (PySem.call (.ref f) [.int b t] []) Q E s := by
  refine wpAny_call ?_
  refine' kla_code B F X N T rfl hf hke hlam (codeRec_news N hc hd hv) (by k_room) rfl (locs rfl) ?_ rfl rfl rfl (by decide)
  intro g' L' h1 FG' F' N' B' X' T'
  iterate 2 walk1
  refine nameX_F N' (by rfl) hcell hcd ?_
  refine kqd_isIn (n₁ := []) (n₂ := []) (d := .int b) N' hlv rfl rfl hD (List.forall_mem_nil _) (.int _ _) (List.forall_mem_nil _) (fun d hd => ?_) rfl (by show un + 3 + 64 < cLine; omega) ?_
  · obtain ⟨n, _, rfl⟩ := List.mem_map.mp hd; rfl
  have hin : Dat.int b ∈ ns.map Dat.int := List.mem_map.mpr ⟨b, hb, rfl⟩
  simp only [hin, decide_true]
  refine leaveK_ F' N' ?_
  intro kF kN
  exact h _ _ kF kN

theorem leaves_call {w : World} {A₀ : Around} {base g0 : Heap} {outer : List Env} {env : Env} {dep un : Nat} {gd : Option (List Code)} {mg mb : Str → Option Value} {mean : ExcName → Option Value} {loose : List Str} {L : Addr} {m : Str → Option Value} {s : Shared} {E : Value → Shared → Prop} {Q : Value → Shared → Prop} {k0 k1 k2 k3 k4 k5 k6 k7 k8 k9 k10 k11 k12 k13 k14 k15 : Tok} {t0 t1 t2 t4 t5 t6 t7 t13 : Tok} {ch : Addr} {j0 j1 j2 j3 j4 j5 j6 : Tok} {u1 u2 u3 u4 u5 u6 : Tok} {dws dw xw dt xt : Addr} {ow : Obj}
    {b st p h : Int} {bt stt pt ht : Tok} {we wl : Addr} {ded : Bool}
    (B : Below A₀ base outer g0) (F : Fr g0 L s.heap m) (X : (Mine.hd.heap_1 w.params).In g0) (T : Top topProg loose mean mg mb g0) (hf : env.frame = some L) (hke : env.scope.kind = .function) (hdep : dep + 8 < recursionLimit) (hun : un + 300 < cLine)
    {news : List (Addr × Obj)} (N : News g0 L s.heap news) (m1 : (dw, dictOf (winE w.params k0 k1 k2 k3 k4 k5 k6 k7 k8 k9 k10 k11 k12 k13 k14 k15 t0 t1 t2 ch t4 t5 t6 t7 t13 b bt st stt p pt h ht ded we wl) 16) ∈ news) (m2 : (xw, instObj 93 dw) ∈ news) (m3 : (dt, dictOf (treeE w.params j0 j1 j2 j3 j4 j5 j6 dws u1 u2 u3 u4 u5 u6) 7) ∈ news) (m4 : (xt, instObj 164 dt) ∈ news) (m5 : (dws, ow) ∈ news)
    (hlo : (dws == sysModules) = false) (hOw : Obj.IsDictOf (intKind Challenge.rw_np0058_01.row.prog w) ow [(1, .ref xw)])
    (hQ : ∀ D n t h' tk, Fr g0 L h' m → News g0 L h' ((D, listOf [Value.int 1 t].toArray n) :: news) → (∀ z ∈ news, z.1 ≠ D) → Q (.ref D) { s with heap := h', toks := tk }) :
    wpAny (model Challenge.rw_np0058_01.row.prog w) ⟨none, dep, some (env :: outer), gd, un⟩ (PySem.call (.ref 189) [.ref xt] []) Q E s := by
  have hPR : PySem.Challenge.rw_np0058_01 = PySem.Challenge.rw_np0058_01 ∧ Mine.hd.heap_1 = Mine.hd.heap_1 := by
    k_fill
    exact ⟨rfl, rfl⟩
  have hKd := kdMark
  unfold winE at m1
  unfold treeE at m3
  refine wpAny_call ?_
  ((refine' code_defG ?k1 ?k2 ?k3 ?k4 ?k5 ?kA ?kF ?kK ?k6 ?k7 ?k8 ?k9 ?kB ?_ ?c2 ?c3 ?c4 ?c5; (case kA => exact rfl); (case kF => first | exact rfl | assumption); (case kK => first | exact rfl | assumption); (case k1 => k_asm); (case k2 => k_asm); (case k3 => k_asm); (case k4 => k_asm); (case k5 => k_asm); (case k6 => k_is); (case k7 => k_is); (case k8 => k_room); (case k9 => first | exact BindsTo.of_eq rfl | exact binds_K (by k_in) rfl (by k_is) rfl rfl rfl | fail "k_enter: no rule for these arguments"); (case c5 => decide); (case kB => exact locs rfl); (case c2 => exact rfl); (case c3 => exact rfl); (case c4 => exact rfl); k_whole; walk_at "MINE inenter"))
  (repeat' (first | (k_unfold; (try dsimp only)) | (walk_at "MINE stop"; walk1) | (dsimp only; walk_at "MINE stop"; walk1) | (dsimp only; k_unfold; (try dsimp only))))
  refine ne_nilD (ds := [.int 1]) (by k_asm) (by walk_at "MINE mem") (by walk_at "MINE mem") (.cons (.int _ _) .nil) (by decide) (by show un + 3 + 3 + 64 < cLine; omega) ?_
  (repeat' (first | (k_unfold; (try dsimp only)) | (walk_at "MINE stop"; walk1) | (dsimp only; walk_at "MINE stop"; walk1) | (dsimp only; k_unfold; (try dsimp only))))
  refine ne_nilD (ds := []) (by k_asm) (by walk_at "MINE mem") (by walk_at "MINE mem") .nil (by decide) (by show un + 3 + 3 + 64 < cLine; omega) ?_
  (repeat' (first | (k_unfold; (try dsimp only)) | (walk_at "MINE stop"; walk1) | (dsimp only; walk_at "MINE stop"; walk1) | (dsimp only; k_unfold; (try dsimp only))))
  rename Fr g0 L _ m => kF
  rename News g0 L _ _ => kN
  refine' hQ _ _ _ _ _ kF ?nw ?fr
  case fr => (intro z hz; refine Nat.ne_of_lt ?_; revert z; assumption)
  case nw =>
    intro p hp
    refine kN p ?_
    revert p
    walk_at "MINE sub"

theorem show_call {w : World} {base g0 : Heap} {env : Env} {mg mb : Str → Option Value} {mean : ExcName → Option Value} {loose : List Str} {L : Addr} {m : Str → Option Value} {s : Shared} {E : Value → Shared → Prop} {Q : Value → Shared → Prop} {k0 k1 k2 k3 k4 k5 k6 k7 k8 k9 k10 k11 k12 k13 k14 k15 : Tok} {t0 t1 t2 t4 t5 t6 t7 t13 : Tok} {ch : Addr} {j0 j1 j2 j3 j4 j5 j6 : Tok} {u1 u2 u3 u4 u5 u6 : Tok} {dws dw xw dt xt : Addr} {ow : Obj}
    {b st p h : Int} {bt stt pt ht : Tok} {we wl : Addr} {tl : List (Addr × Obj)} {evs lvs : List Value} {en ln : Nat} {es ls : List Dat} {nb : Int} {nt rt : Tok}
    (B : Below callerA base [] g0) (F : Fr g0 L s.heap m) (X : (Mine.hd.heap_1 w.params).In g0) (T : Top topProg loose mean mg mb g0) (hf : env.frame = some L) (hke : env.scope.kind = .function)
    (N : News g0 L s.heap ((dw, dictOf (winE w.params k0 k1 k2 k3 k4 k5 k6 k7 k8 k9 k10 k11 k12 k13 k14 k15 t0 t1 t2 ch t4 t5 t6 t7 t13 b bt st stt p pt h ht false we wl) 16) :: (xw, instObj 93 dw) :: (dt, dictOf (treeE w.params j0 j1 j2 j3 j4 j5 j6 dws u1 u2 u3 u4 u5 u6) 7) :: (xt, instObj 164 dt) :: (dws, ow) :: tl))
    {L9 : List (Addr × Obj)} (hL9 : ∀ p ∈ L9, p ∈ tl) (hOff : OwnOff tl [dw]) (hn1 : @Ne Nat dw xw) (hn2 : @Ne Nat dw dt) (hn3 : @Ne Nat dw xt) (hn4 : @Ne Nat dw dws) (hlo : (dws == sysModules) = false) (hOw : Obj.IsDictOf (intKind Challenge.rw_np0058_01.row.prog w) ow [(1, .ref xw)])
    (hE : (we, listOf evs.toArray en) ∈ tl) (hEs : DatAll L9 evs es) (hEr : ∀ d ∈ es, IsRow d) (hEl : evs.length ≤ 500)
    (hL : (wl, listOf lvs.toArray ln) ∈ tl) (hLs : DatAll L9 lvs ls) (hLr : ∀ d ∈ ls, IsRow d) (hLl : lvs.length ≤ 500)
    (hsame : b = nb → ∀ h' tk, Fr g0 L h' m → News g0 L h' ((dw, dictOf (winE w.params k0 k1 k2 k3 k4 k5 k6 k7 k8 k9 k10 k11 k12 k13 k14 k15 t0 t1 t2 ch t4 t5 t6 t7 t13 b bt st stt p pt h ht false we wl) 16) :: (xw, instObj 93 dw) :: (dt, dictOf (treeE w.params j0 j1 j2 j3 j4 j5 j6 dws u1 u2 u3 u4 u5 u6) 7) :: (xt, instObj 164 dt) :: (dws, ow) :: tl) → Q .none { s with heap := h', toks := tk })
    (hnew : b ≠ nb → ∀ h' tk add (nb2 ns np nh : Int) (nbt nst npt nht : Tok) (we2 wl2 : Addr) evs2 lvs2 en2 ln2, rowD nb2 ns np nh = (es.filter (rowIs nb)).headD (rowD nb 1 1 0) →
      Fr g0 L h' m → News g0 L h' ((dw, dictOf (winE w.params k0 k1 k2 k3 k4 k5 k6 k7 k8 k9 k10 k11 k12 k13 k14 k15 t0 t1 t2 ch t4 t5 t6 t7 t13 nb2 nbt ns nst np npt nh nht false we2 wl2) 16) :: (xw, instObj 93 dw) :: (dt, dictOf (treeE w.params j0 j1 j2 j3 j4 j5 j6 dws u1 u2 u3 u4 u5 u6) 7) :: (xt, instObj 164 dt) :: (dws, ow) :: (add ++ tl)) → (∀ q ∈ add, @Ne Nat dw q.1 ∧ ∀ z ∈ tl, z.1 ≠ q.1) →
      (we2, listOf (List.toArray evs2) en2) ∈ add → DatAll (add ++ L9) evs2 ((es.filter (rowNe b) ++ [rowD b st p h]).filter (rowNe nb)) → evs2.length ≤ evs.length + 1 →
      (wl2, listOf (List.toArray lvs2) ln2) ∈ add → DatAll (add ++ L9) lvs2 (ls.filter (rowNe nb)) → lvs2.length ≤ lvs.length → Q .none { s with heap := h', toks := tk }) :
    wpAny (model Challenge.rw_np0058_01.row.prog w) (callerA.deeper env) (PySem.call (.ref 276) [.ref xt, .int 1 rt, .int nb nt] []) Q E s := by
  have hPR : PySem.Challenge.rw_np0058_01 = PySem.Challenge.rw_np0058_01 ∧ Mine.hd.heap_1 = Mine.hd.heap_1 := by
    k_fill
    exact ⟨rfl, rfl⟩
  have hKd := kdMark
  refine wpAny_call ?_
  ((refine' code_defC ?k1 ?k2 ?k3 ?k4 ?k5 ?kA ?kF ?kK ?k6 ?k7 ?k8 ?k9 ?kB ?kD ?_ ?c2 ?c3 ?c4; (case kA => exact rfl); (case kF => first | exact rfl | assumption); (case kK => first | exact rfl | assumption); (case k1 => k_asm); (case k2 => k_asm); (case k3 => k_asm); (case k4 => k_asm); (case k5 => k_asm); (case k6 => k_is); (case k7 => k_is); (case k8 => k_room); (case k9 => first | exact BindsTo.of_eq rfl | exact binds_K (by k_in) rfl (by k_is) rfl rfl rfl | fail "k_enter: no rule for these arguments"); (case kB => exact rfl); (case kD => decide +kernel); (case c2 => exact rfl); (case c3 => exact rfl); (case c4 => exact rfl); k_whole; walk_at "MINE inenterC"))
  (repeat' (first | (k_unfold; (try dsimp only)) | (walk_at "MINE stop"; walk1) | (dsimp only; walk_at "MINE stop"; walk1) | (dsimp only; k_unfold; (try dsimp only))))
  · rename Fr g0 L _ m => kF
    rename News g0 L _ _ => kN
    refine hsame (by assumption) _ _ kF (fun p hp => kN p (.tail _ hp))
  rename @Ne Int b nb => hbn
  ((refine LCt.Assign_ListComp_T (F₀ := by k_asm) (by rfl) (by with_unfolding_all rfl) (by with_unfolding_all rfl) (by decide) (by rfl) (by decide) (by rfl) (by rfl) (by rfl) ?_))
  (repeat' (first | (k_unfold; (try dsimp only)) | (walk_at "MINE stop"; walk1) | (dsimp only; walk_at "MINE stop"; walk1) | (dsimp only; k_unfold; (try dsimp only))))
  (refine LCt.CompSrcT.ledger (by rfl) (by k_asm) (by k_asm) (by walk_at "MINE mem") (by rw [List.size_toArray, PySem.sizeLine_eq]; omega) ?_)
  intro g9
  refine Mine.filt_rest (rowIs nb) hEs (.inr ⟨_, by walk_at "MINE mem", rfl, _, rfl⟩) (by rfl) (by rfl) (by decide) ?_ ?_
  · intro v d I oI C oC D m₂ ys h tk E' hd hv hC hx F N off ne
    obtain ⟨r1, r2, r3, r4, rfl⟩ := hEr d hd
    obtain ⟨ra, rn, t1, t2, t3, t4, rfl, rm⟩ := dat_row hv
    replace rm := hL9 _ rm
    simp only [LCg.Off3] at off
    repeat' walk1
    exact TestEnd.intro rfl F N fun _ h => h
  · intro ag hag hagl
    intro Dg h9 tk F9 N9 off9
    have onw9 : @Ne Nat dw Dg := off1_mem off9 (dw, _) (by walk_at "MINE mem")
    (repeat' (first | (k_unfold; (try dsimp only)) | (walk_at "MINE stop"; walk1) | (dsimp only; walk_at "MINE stop"; walk1) | (dsimp only; k_unfold; (try dsimp only))))
    refine without_call (by k_asm) (by k_asm) (by k_asm) (by k_asm) (by k_asm) rfl rfl (by k_room) (L9 := L9) (by exact fun z hz => (by have := hL9 z hz; repeat (first | assumption | refine List.Mem.tail _ ?_))) (by walk_at "MINE mem") (hEs) (hEr) (by omega) ?_
    intro D1 ys1 h1 tk1 hD1 hl1 F1 N1 off1
    have onw1 : @Ne Nat dw D1 := off1_mem off1 (dw, _) (by walk_at "MINE mem")
    (repeat' (first | (k_unfold; (try dsimp only)) | (walk_at "MINE stop"; walk1) | (dsimp only; walk_at "MINE stop"; walk1) | (dsimp only; k_unfold; (try dsimp only))))
    refine kup_newTuple (by k_asm) (by k_asm) ?_ (by size_fits)
    intro tp h2 F2 N2 lt2
    have raw2 := lt2
    (try k_lt lt2)
    (repeat' (first | (k_unfold; (try dsimp only)) | (walk_at "MINE stop"; walk1) | (dsimp only; walk_at "MINE stop"; walk1) | (dsimp only; k_unfold; (try dsimp only))))
    refine cat_rows (by k_asm) (by k_asm) (by walk_at "MINE mem") (by walk_at "MINE mem") (by simp only [List.length_cons, List.length_nil]; omega) ?_
    intro D3 h3 F3 N3 lt3
    (try k_lt lt3)
    (repeat' (first | (k_unfold; (try dsimp only)) | (walk_at "MINE stop"; walk1) | (dsimp only; walk_at "MINE stop"; walk1) | (dsimp only; k_unfold; (try dsimp only))))
    refine without_call (by k_asm) (by k_asm) (by k_asm) (by k_asm) (by k_asm) rfl rfl (by k_room) (L9 := (tp, tupObj [Value.int b bt, Value.int st stt, Value.int p pt, Value.int h ht] 0) :: L9) (by exact List.forall_mem_cons.mpr ⟨by walk_at "MINE mem", fun z hz => (by have := hL9 z hz; repeat (first | assumption | refine List.Mem.tail _ ?_))⟩) (by walk_at "MINE mem") (DatAll.append (DatAll.mono (fun _ h => .tail _ h) hD1) (DatAll.one (row_dat (.head _)))) (rows_append (rows_filter hEr) rows_one) (by (simp only [List.length_append, List.length_cons, List.length_nil]; omega)) ?_
    intro D4 ys4 h4 tk4 hD4 hl4 F4 N4 off4
    have onw4 : @Ne Nat dw D4 := off1_mem off4 (dw, _) (by walk_at "MINE mem")
    (repeat' (first | (k_unfold; (try dsimp only)) | (walk_at "MINE stop"; walk1) | (dsimp only; walk_at "MINE stop"; walk1) | (dsimp only; k_unfold; (try dsimp only))))
    refine without_call (by k_asm) (by k_asm) (by k_asm) (by k_asm) (by k_asm) rfl rfl (by k_room) (L9 := L9) (by exact fun z hz => (by have := hL9 z hz; repeat (first | assumption | refine List.Mem.tail _ ?_))) (by walk_at "MINE mem") (hLs) (hLr) (by omega) ?_
    intro D5 ys5 h5 tk5 hD5 hl5 F5 N5 off5
    have onw5 : @Ne Nat dw D5 := off1_mem off5 (dw, _) (by walk_at "MINE mem")
    (repeat' (first | (k_unfold; (try dsimp only)) | (walk_at "MINE stop"; walk1) | (dsimp only; walk_at "MINE stop"; walk1) | (dsimp only; k_unfold; (try dsimp only))))
    refine ne_nil (by k_asm) (by walk_at "MINE mem") (by walk_at "MINE mem") hag (by exact fun z hz => (by have := hL9 z hz; repeat (first | assumption | refine List.Mem.tail _ ?_))) (rows_filter hEr) (Nat.le_of_ble_eq_true rfl) ?_
    rcases hA : es.filter (rowIs nb) with _ | ⟨r, rest⟩
    · rw [hA] at hag
      cases hag
      simp only [List.isEmpty_nil, Bool.not_true]
      (repeat' (first | (k_unfold; (try dsimp only)) | (walk_at "MINE stop"; walk1) | (dsimp only; walk_at "MINE stop"; walk1) | (dsimp only; k_unfold; (try dsimp only))))
      refine kup_newTuple (by k_asm) (by k_asm) ?_ (by size_fits)
      intro tq h6 F6 N6 lt6
      have raw6 := lt6
      (try k_lt lt6)
      (repeat' (first | (k_unfold; (try dsimp only)) | (walk_at "MINE stop"; walk1) | (dsimp only; walk_at "MINE stop"; walk1) | (dsimp only; k_unfold; (try dsimp only))))
      rename Fr g0 L _ m => kF
      rename News g0 L _ _ => kN
      refine' hnew hbn _ _ [(D5, LCg.lst ys5), (D4, LCg.lst ys4), (tp, tupObj [Value.int b bt, Value.int st stt, Value.int p pt, Value.int h ht] 0), (tq, tupObj [Value.int nb nt, Value.int 1 _, Value.int 1 _, Value.int 0 _] 0)] nb 1 1 0 _ _ _ _ D4 D5 ys4 ys5 ys4.length ys5.length ?hd kF ?nw ?fr (.tail _ (.head _)) ?d4 ?l4 (.head _) ?d5 ?l5
      case nw =>
        intro p hp
        refine kN p ?_
        revert p
        walk_at "MINE sub"
      case hd => simp only [hA]; rfl
      case fr => exact fresh_cons ⟨onw5, fun z hz => off1_mem off5 z (by repeat (first | exact hz | refine List.Mem.tail _ ?_))⟩ (fresh_cons ⟨onw4, fun z hz => off1_mem off4 z (by repeat (first | exact hz | refine List.Mem.tail _ ?_))⟩ (fresh_cons ⟨Nat.ne_of_lt (raw2 (dw, _) (by walk_at "MINE mem")), fun z hz => Nat.ne_of_lt (raw2 z (by repeat (first | exact hz | refine List.Mem.tail _ ?_)))⟩ (fresh_cons ⟨Nat.ne_of_lt (raw6 (dw, _) (by walk_at "MINE mem")), fun z hz => Nat.ne_of_lt (raw6 z (by repeat (first | exact hz | refine List.Mem.tail _ ?_)))⟩ fresh_nil)))
      case d4 => exact DatAll.mono (by intro p hp; simp only [List.mem_cons, List.mem_append, List.not_mem_nil] at hp ⊢; rcases hp with h | h <;> simp [h]) hD4
      case l4 => simp only [List.length_append, List.length_cons, List.length_nil] at hl4; omega
      case d5 => exact DatAll.mono (fun p hp => List.mem_append.mpr (.inr hp)) hD5
      case l5 => exact hl5
    · rw [hA] at hag
      have hr' : IsRow r := hEr r (List.mem_filter.mp (by rw [hA]; exact .head _)).1
      obtain ⟨a1, a2, a3, a4, rfl⟩ := hr'
      cases hag with
      | cons hv hr =>
        obtain ⟨ra, rn, x1, x2, x3, x4, rfl, rm⟩ := dat_row hv
        replace rm := hL9 _ rm
        simp only [List.isEmpty_cons, Bool.not_false]
        (repeat' (first | (k_unfold; (try dsimp only)) | (walk_at "MINE stop"; walk1) | (dsimp only; walk_at "MINE stop"; walk1) | (dsimp only; k_unfold; (try dsimp only))))
        refine item_at (by k_asm) (by walk_at "MINE mem") (by decide) (by decide) (by rfl) ?_
        (repeat' (first | (k_unfold; (try dsimp only)) | (walk_at "MINE stop"; walk1) | (dsimp only; walk_at "MINE stop"; walk1) | (dsimp only; k_unfold; (try dsimp only))))
        rename Fr g0 L _ m => kF
        rename News g0 L _ _ => kN
        refine' hnew hbn _ _ [(D5, LCg.lst ys5), (D4, LCg.lst ys4), (tp, tupObj [Value.int b bt, Value.int st stt, Value.int p pt, Value.int h ht] 0)] a1 a2 a3 a4 _ _ _ _ D4 D5 ys4 ys5 ys4.length ys5.length ?hd kF ?nw ?fr (.tail _ (.head _)) ?d4 ?l4 (.head _) ?d5 ?l5
        case nw =>
          intro p hp
          refine kN p ?_
          revert p
          walk_at "MINE sub"
        case hd => simp only [hA]; rfl
        case fr => exact fresh_cons ⟨onw5, fun z hz => off1_mem off5 z (by repeat (first | exact hz | refine List.Mem.tail _ ?_))⟩ (fresh_cons ⟨onw4, fun z hz => off1_mem off4 z (by repeat (first | exact hz | refine List.Mem.tail _ ?_))⟩ (fresh_cons ⟨Nat.ne_of_lt (raw2 (dw, _) (by walk_at "MINE mem")), fun z hz => Nat.ne_of_lt (raw2 z (by repeat (first | exact hz | refine List.Mem.tail _ ?_)))⟩ fresh_nil))
        case d4 => exact DatAll.mono (by intro p hp; simp only [List.mem_cons, List.mem_append, List.not_mem_nil] at hp ⊢; rcases hp with h | h <;> simp [h]) hD4
        case l4 => simp only [List.length_append, List.length_cons, List.length_nil] at hl4; omega
        case d5 => exact DatAll.mono (fun p hp => List.mem_append.mpr (.inr hp)) hD5
        case l5 => exact hl5

theorem previous_call {w : World} {base g0 : Heap} {env : Env} {mg mb : Str → Option Value} {mean : ExcName → Option Value} {loose : List Str} {L : Addr} {m : Str → Option Value} {s : Shared} {E : Value → Shared → Prop} {Q : Value → Shared → Prop} {k0 k1 k2 k3 k4 k5 k6 k7 k8 k9 k10 k11 k12 k13 k14 k15 : Tok} {t0 t1 t2 t4 t5 t6 t7 t13 : Tok} {ch : Addr} {j0 j1 j2 j3 j4 j5 j6 : Tok} {u1 u2 u3 u4 u5 u6 : Tok} {dws dw xw dt xt : Addr} {ow : Obj} {nm qual : Str} {q1 q2 q3 q4 : Pos} {cell f c' live : Addr} {pm ctv : Value} {oc ol : Obj} {ovs : Array Value} {tq : Tok} {lvv : List Value} {lvn : Nat} {ns : List Int}
    {b st p h : Int} {bt stt pt ht : Tok} {we wl : Addr} {tl : List (Addr × Obj)} {evs lvs : List Value} {en ln : Nat} {es ls : List Dat} {rt : Tok}
    (B : Below callerA base [] g0) (F : Fr g0 L s.heap m) (X : (Mine.hd.heap_1 w.params).In g0) (T : Top topProg loose mean mg mb g0) (hf : env.frame = some L) (hke : env.scope.kind = .function)
    (N : News g0 L s.heap ((dw, dictOf (winE w.params k0 k1 k2 k3 k4 k5 k6 k7 k8 k9 k10 k11 k12 k13 k14 k15 t0 t1 t2 ch t4 t5 t6 t7 t13 b bt st stt p pt h ht false we wl) 16) :: (xw, instObj 93 dw) :: (dt, dictOf (treeE w.params j0 j1 j2 j3 j4 j5 j6 dws u1 u2 u3 u4 u5 u6) 7) :: (xt, instObj 164 dt) :: (dws, ow) :: tl))
    {L9 : List (Addr × Obj)} (hL9 : ∀ p ∈ L9, p ∈ tl) (hOff : OwnOff tl [dw]) (hn1 : @Ne Nat dw xw) (hn2 : @Ne Nat dw dt) (hn3 : @Ne Nat dw xt) (hn4 : @Ne Nat dw dws) (hlo : (dws == sysModules) = false) (hOw : Obj.IsDictOf (intKind Challenge.rw_np0058_01.row.prog w) ow [(1, .ref xw)])
    (hE : (we, listOf evs.toArray en) ∈ tl) (hEs : DatAll L9 evs es) (hEr : ∀ d ∈ es, IsRow d) (hEl : evs.length ≤ 500)
    (hL : (wl, listOf lvs.toArray ln) ∈ tl) (hLs : DatAll L9 lvs ls) (hLr : ∀ d ∈ ls, IsRow d) (hLl : lvs.length ≤ 500)
    (hlam : (f, lamO nm qual q1 q2 q3 q4 cell pm c' ctv) ∈ tl) (hc : (c', oc) ∈ tl) (hcd1 : oc.data = .fields ovs) (hcd2 : ovs[1]? = some (.str qual tq)) (hcell : (cell, ol) ∈ tl) (hcell2 : ol.data = .cell (some (.ref live))) (hlv : (live, listOf lvv.toArray lvn) ∈ tl) (hlvD : DatAll [] lvv (ns.map Dat.int)) (hns : ∀ d ∈ es, RowIn ns d)
    (hnil : es = [] → ∀ h' tk we2 en2 t, Fr g0 L h' m → (@Ne Nat dw we2 ∧ ∀ z ∈ tl, z.1 ≠ we2) → News g0 L h' ((dw, dictOf (winE w.params k0 k1 k2 k3 k4 k5 k6 k7 k8 k9 k10 k11 k12 k13 k14 k15 t0 t1 t2 ch t4 t5 t6 t7 t13 b bt st stt p pt h ht false we2 wl) 16) :: (xw, instObj 93 dw) :: (dt, dictOf (treeE w.params j0 j1 j2 j3 j4 j5 j6 dws u1 u2 u3 u4 u5 u6) 7) :: (xt, instObj 164 dt) :: (dws, ow) :: ((we2, listOf ([] : List Value).toArray en2) :: tl)) → Q (.int 0 t) { s with heap := h', toks := tk })
    (hcons : ∀ es0 nb2 ns2 np nh, es = es0 ++ [rowD nb2 ns2 np nh] → ∀ h' tk add (nbt nst npt nht t : Tok) (we2 wl2 : Addr) evs2 lvs2 en2 ln2,
      Fr g0 L h' m → News g0 L h' ((dw, dictOf (winE w.params k0 k1 k2 k3 k4 k5 k6 k7 k8 k9 k10 k11 k12 k13 k14 k15 t0 t1 t2 ch t4 t5 t6 t7 t13 nb2 nbt ns2 nst np npt nh nht false we2 wl2) 16) :: (xw, instObj 93 dw) :: (dt, dictOf (treeE w.params j0 j1 j2 j3 j4 j5 j6 dws u1 u2 u3 u4 u5 u6) 7) :: (xt, instObj 164 dt) :: (dws, ow) :: (add ++ tl)) → (∀ q ∈ add, @Ne Nat dw q.1 ∧ ∀ z ∈ tl, z.1 ≠ q.1) →
      (we2, listOf (List.toArray evs2) en2) ∈ add → DatAll (add ++ L9) evs2 (es.filter (rowNe nb2)) → evs2.length ≤ evs.length →
      (wl2, listOf (List.toArray lvs2) ln2) ∈ add → DatAll (add ++ L9) lvs2 (rowD b st p h :: ls.filter (rowNe b)) → lvs2.length ≤ lvs.length + 1 → Q (.int nb2 t) { s with heap := h', toks := tk }) :
    wpAny (model Challenge.rw_np0058_01.row.prog w) (callerA.deeper env) (PySem.call (.ref 281) [.ref xt, .int 1 rt, .ref f] []) Q E s := by
  have hPR : PySem.Challenge.rw_np0058_01 = PySem.Challenge.rw_np0058_01 ∧ Mine.hd.heap_1 = Mine.hd.heap_1 := by
    k_fill
    exact ⟨rfl, rfl⟩
  have hKd := kdMark
  refine wpAny_call ?_
  ((refine' code_defC ?k1 ?k2 ?k3 ?k4 ?k5 ?kA ?kF ?kK ?k6 ?k7 ?k8 ?k9 ?kB ?kD ?_ ?c2 ?c3 ?c4; (case kA => exact rfl); (case kF => first | exact rfl | assumption); (case kK => first | exact rfl | assumption); (case k1 => k_asm); (case k2 => k_asm); (case k3 => k_asm); (case k4 => k_asm); (case k5 => k_asm); (case k6 => k_is); (case k7 => k_is); (case k8 => k_room); (case k9 => first | exact BindsTo.of_eq rfl | exact binds_K (by k_in) rfl (by k_is) rfl rfl rfl | fail "k_enter: no rule for these arguments"); (case kB => exact rfl); (case kD => decide +kernel); (case c2 => exact rfl); (case c3 => exact rfl); (case c4 => exact rfl); k_whole; walk_at "MINE inenterC"))
  (repeat' (first | (k_unfold; (try dsimp only)) | (walk_at "MINE stop"; walk1) | (dsimp only; walk_at "MINE stop"; walk1) | (dsimp only; k_unfold; (try dsimp only))))
  ((refine LCt.ListComp_T (F₀ := by k_asm) (by with_unfolding_all rfl) (by decide) (by rfl) (by decide) (by rfl) ?_))
  (repeat' (first | (k_unfold; (try dsimp only)) | (walk_at "MINE stop"; walk1) | (dsimp only; walk_at "MINE stop"; walk1) | (dsimp only; k_unfold; (try dsimp only))))
  (refine LCt.CompSrcT.ledger (by rfl) (by k_asm) (by k_asm) (by walk_at "MINE mem") (by rw [List.size_toArray, PySem.sizeLine_eq]; omega) ?_)
  intro g9
  refine Mine.filt_rest (fun _ => true) hEs (.inr ⟨_, by walk_at "MINE mem", rfl, _, rfl⟩) (by rfl) (by rfl) (by decide) ?_ ?_
  · intro v d I oI C oC D m₂ ys h tk E' hd hv hC hx F N off ne
    obtain ⟨r1, r2, r3, r4, rfl, rin⟩ := hns d hd
    obtain ⟨ra, rn, t1, t2, t3, t4, rfl, rm⟩ := dat_row hv
    replace rm := hL9 _ rm
    simp only [LCg.Off3] at off
    (repeat' (first | (k_unfold; (try dsimp only)) | (walk_at "MINE stop"; walk1) | (dsimp only; walk_at "MINE stop"; walk1) | (dsimp only; k_unfold; (try dsimp only))))
    refine callWith_F (FnAt.of (by k_asm) (by walk_at "MINE mem")) ?_
    (repeat' (first | (k_unfold; (try dsimp only)) | (walk_at "MINE stop"; walk1) | (dsimp only; walk_at "MINE stop"; walk1) | (dsimp only; k_unfold; (try dsimp only))))
    refine lam_call (by k_asm) (by k_asm) (by k_asm) (by k_asm) (by k_asm) rfl rfl (by k_room) (Nat.le_of_ble_eq_true rfl) (by walk_at "MINE mem") (by walk_at "MINE mem") hcd1 hcd2 (by walk_at "MINE mem") hcell2 (by walk_at "MINE mem") hlvD rin ?_
    intro h9 tk9 F9 N9
    (repeat' (first | (k_unfold; (try dsimp only)) | (walk_at "MINE stop"; walk1) | (dsimp only; walk_at "MINE stop"; walk1) | (dsimp only; k_unfold; (try dsimp only))))
    exact TestEnd.intro rfl (by k_asm) (by k_asm) fun _ h => h
  · intro ag hag hagl
    intro Dg h9 tk F9 N9 off9
    have onw9 : @Ne Nat dw Dg := off1_mem off9 (dw, _) (by walk_at "MINE mem")
    have e9 : es.filter (fun _ => true) = es := List.filter_eq_self.mpr (fun _ _ => rfl)
    rw [e9] at hag
    (repeat' (first | (k_unfold; (try dsimp only)) | (walk_at "MINE stop"; walk1) | (dsimp only; walk_at "MINE stop"; walk1) | (dsimp only; k_unfold; (try dsimp only))))
    refine eq_nil (by k_asm) (by walk_at "MINE mem") (by walk_at "MINE mem") hag (by exact fun z hz => (by have := hL9 z hz; repeat (first | assumption | refine List.Mem.tail _ ?_))) hEr (Nat.le_of_ble_eq_true rfl) ?_
    rcases List.eq_nil_or_concat es with hes | ⟨es0, d, hes⟩
    · rw [hes] at hag
      cases hag
      have ee : es.isEmpty = true := by rw [hes]; rfl
      rw [ee]
      (repeat' (first | (k_unfold; (try dsimp only)) | (walk_at "MINE stop"; walk1) | (dsimp only; walk_at "MINE stop"; walk1) | (dsimp only; k_unfold; (try dsimp only))))
      rename Fr g0 L _ m => kF
      rename News g0 L _ _ => kN
      refine hnil hes _ _ Dg 0 _ kF ⟨onw9, fun z hz => off1_mem off9 z (by repeat (first | exact hz | refine List.Mem.tail _ ?_))⟩ ?_
      intro p hp
      refine kN p ?_
      revert p
      walk_at "MINE sub"
    · rw [List.concat_eq_append] at hes
      rw [hes] at hag
      have hr' : IsRow d := hEr d (by rw [hes]; exact List.mem_append.mpr (.inr (.head _)))
      obtain ⟨a1, a2, a3, a4, rfl⟩ := hr'
      have hag0 := hag
      obtain ⟨vs, v, rfl, hv0, hv⟩ := datall_concat hag
      obtain ⟨ra, rn, x1, x2, x3, x4, rfl, rm⟩ := dat_row hv
      replace rm := hL9 _ rm
      have ee : es.isEmpty = false := by rw [hes]; simp
      rw [ee]
      (repeat' (first | (k_unfold; (try dsimp only)) | (walk_at "MINE stop"; walk1) | (dsimp only; walk_at "MINE stop"; walk1) | (dsimp only; k_unfold; (try dsimp only))))
      refine kup_newTuple (by k_asm) (by k_asm) ?_ (by size_fits)
      intro tp h2 F2 N2 lt2
      have raw2 := lt2
      (try k_lt lt2)
      (repeat' (first | (k_unfold; (try dsimp only)) | (walk_at "MINE stop"; walk1) | (dsimp only; walk_at "MINE stop"; walk1) | (dsimp only; k_unfold; (try dsimp only))))
      refine without_call (by k_asm) (by k_asm) (by k_asm) (by k_asm) (by k_asm) rfl rfl (by k_room) (L9 := L9) (by exact fun z hz => (by have := hL9 z hz; repeat (first | assumption | refine List.Mem.tail _ ?_))) (by walk_at "MINE mem") (hLs) (hLr) (by omega) ?_
      intro D1 ys1 h1 tk1 hD1 hl1 F1 N1 off1
      have onw1 : @Ne Nat dw D1 := off1_mem off1 (dw, _) (by walk_at "MINE mem")
      (repeat' (first | (k_unfold; (try dsimp only)) | (walk_at "MINE stop"; walk1) | (dsimp only; walk_at "MINE stop"; walk1) | (dsimp only; k_unfold; (try dsimp only))))
      refine cat_rows (by k_asm) (by k_asm) (by walk_at "MINE mem") (by walk_at "MINE mem") (by simp only [List.length_cons, List.length_nil]; omega) ?_
      intro D3 h3 F3 N3 lt3
      have raw3 := lt3
      (try k_lt lt3)
      (repeat' (first | (k_unfold; (try dsimp only)) | (walk_at "MINE stop"; walk1) | (dsimp only; walk_at "MINE stop"; walk1) | (dsimp only; k_unfold; (try dsimp only))))
      refine item_last (by k_asm) (by walk_at "MINE mem") ?_
      (repeat' (first | (k_unfold; (try dsimp only)) | (walk_at "MINE stop"; walk1) | (dsimp only; walk_at "MINE stop"; walk1) | (dsimp only; k_unfold; (try dsimp only))))
      refine without_call (by k_asm) (by k_asm) (by k_asm) (by k_asm) (by k_asm) rfl rfl (by k_room) (L9 := L9) (by exact fun z hz => (by have := hL9 z hz; repeat (first | assumption | refine List.Mem.tail _ ?_))) (by walk_at "MINE mem") (hag0) ((by rw [← hes]; exact hEr)) (by (simp only [List.length_append, List.length_cons, List.length_nil] at *; omega)) ?_
      intro D4 ys4 h4 tk4 hD4 hl4 F4 N4 off4
      have onw4 : @Ne Nat dw D4 := off1_mem off4 (dw, _) (by walk_at "MINE mem")
      (repeat' (first | (k_unfold; (try dsimp only)) | (walk_at "MINE stop"; walk1) | (dsimp only; walk_at "MINE stop"; walk1) | (dsimp only; k_unfold; (try dsimp only))))
      rename Fr g0 L _ m => kF
      rename News g0 L _ _ => kN
      refine' hcons es0 a1 a2 a3 a4 hes _ _ [(D4, LCg.lst ys4), (D3, listOf ([Value.ref tp] ++ ys1).toArray 0), (tp, tupObj [Value.int b bt, Value.int st stt, Value.int p pt, Value.int h ht] 0)] _ _ _ _ _ D4 D3 ys4 _ ys4.length 0 kF ?nw ?fr (.head _) ?d4 ?l4 (.tail _ (.head _)) ?d5 ?l5
      case nw =>
        intro p hp
        refine kN p ?_
        revert p
        walk_at "MINE sub"
      case fr => exact fresh_cons ⟨onw4, fun z hz => off1_mem off4 z (by repeat (first | exact hz | refine List.Mem.tail _ ?_))⟩ (fresh_cons ⟨Nat.ne_of_lt (raw3 (dw, _) (by walk_at "MINE mem")), fun z hz => Nat.ne_of_lt (raw3 z (by repeat (first | exact hz | refine List.Mem.tail _ ?_)))⟩ (fresh_cons ⟨Nat.ne_of_lt (raw2 (dw, _) (by walk_at "MINE mem")), fun z hz => Nat.ne_of_lt (raw2 z (by repeat (first | exact hz | refine List.Mem.tail _ ?_)))⟩ fresh_nil))
      case d4 => rw [hes]; exact DatAll.mono (fun p hp => List.mem_append.mpr (.inr hp)) hD4
      case l4 => omega
      case d5 => exact .cons (row_dat (.tail _ (.tail _ (.head _)))) (DatAll.mono (fun p hp => List.mem_append.mpr (.inr hp)) hD1)
      case l5 => simp only [List.length_append, List.length_cons, List.length_nil]; omega

theorem next_call {w : World} {base g0 : Heap} {env : Env} {mg mb : Str → Option Value} {mean : ExcName → Option Value} {loose : List Str} {L : Addr} {m : Str → Option Value} {s : Shared} {E : Value → Shared → Prop} {Q : Value → Shared → Prop} {k0 k1 k2 k3 k4 k5 k6 k7 k8 k9 k10 k11 k12 k13 k14 k15 : Tok} {t0 t1 t2 t4 t5 t6 t7 t13 : Tok} {ch : Addr} {j0 j1 j2 j3 j4 j5 j6 : Tok} {u1 u2 u3 u4 u5 u6 : Tok} {dws dw xw dt xt : Addr} {ow : Obj} {nm qual : Str} {q1 q2 q3 q4 : Pos} {cell f c' live : Addr} {pm ctv : Value} {oc ol : Obj} {ovs : Array Value} {tq : Tok} {lvv : List Value} {lvn : Nat} {ns : List Int}
    {b st p h : Int} {bt stt pt ht : Tok} {we wl : Addr} {tl : List (Addr × Obj)} {evs lvs : List Value} {en ln : Nat} {es ls : List Dat} {rt : Tok}
    (B : Below callerA base [] g0) (F : Fr g0 L s.heap m) (X : (Mine.hd.heap_1 w.params).In g0) (T : Top topProg loose mean mg mb g0) (hf : env.frame = some L) (hke : env.scope.kind = .function)
    (N : News g0 L s.heap ((dw, dictOf (winE w.params k0 k1 k2 k3 k4 k5 k6 k7 k8 k9 k10 k11 k12 k13 k14 k15 t0 t1 t2 ch t4 t5 t6 t7 t13 b bt st stt p pt h ht false we wl) 16) :: (xw, instObj 93 dw) :: (dt, dictOf (treeE w.params j0 j1 j2 j3 j4 j5 j6 dws u1 u2 u3 u4 u5 u6) 7) :: (xt, instObj 164 dt) :: (dws, ow) :: tl))
    {L9 : List (Addr × Obj)} (hL9 : ∀ p ∈ L9, p ∈ tl) (hOff : OwnOff tl [dw]) (hn1 : @Ne Nat dw xw) (hn2 : @Ne Nat dw dt) (hn3 : @Ne Nat dw xt) (hn4 : @Ne Nat dw dws) (hlo : (dws == sysModules) = false) (hOw : Obj.IsDictOf (intKind Challenge.rw_np0058_01.row.prog w) ow [(1, .ref xw)])
    (hE : (we, listOf evs.toArray en) ∈ tl) (hEs : DatAll L9 evs es) (hEr : ∀ d ∈ es, IsRow d) (hEl : evs.length ≤ 500)
    (hL : (wl, listOf lvs.toArray ln) ∈ tl) (hLs : DatAll L9 lvs ls) (hLr : ∀ d ∈ ls, IsRow d) (hLl : lvs.length ≤ 500)
    (hlam : (f, lamO nm qual q1 q2 q3 q4 cell pm c' ctv) ∈ tl) (hc : (c', oc) ∈ tl) (hcd1 : oc.data = .fields ovs) (hcd2 : ovs[1]? = some (.str qual tq)) (hcell : (cell, ol) ∈ tl) (hcell2 : ol.data = .cell (some (.ref live))) (hlv : (live, listOf lvv.toArray lvn) ∈ tl) (hlvD : DatAll [] lvv (ns.map Dat.int)) (hns : ∀ d ∈ ls, RowIn ns d)
    (hnil : ls = [] → ∀ h' tk wl2 ln2 t, Fr g0 L h' m → (@Ne Nat dw wl2 ∧ ∀ z ∈ tl, z.1 ≠ wl2) → News g0 L h' ((dw, dictOf (winE w.params k0 k1 k2 k3 k4 k5 k6 k7 k8 k9 k10 k11 k12 k13 k14 k15 t0 t1 t2 ch t4 t5 t6 t7 t13 b bt st stt p pt h ht false we wl2) 16) :: (xw, instObj 93 dw) :: (dt, dictOf (treeE w.params j0 j1 j2 j3 j4 j5 j6 dws u1 u2 u3 u4 u5 u6) 7) :: (xt, instObj 164 dt) :: (dws, ow) :: ((wl2, listOf ([] : List Value).toArray ln2) :: tl)) → Q (.int 0 t) { s with heap := h', toks := tk })
    (hcons : ∀ ls0 nb2 ns2 np nh, ls = rowD nb2 ns2 np nh :: ls0 → ∀ h' tk add (nbt nst npt nht t : Tok) (we2 wl2 : Addr) evs2 lvs2 en2 ln2,
      Fr g0 L h' m → News g0 L h' ((dw, dictOf (winE w.params k0 k1 k2 k3 k4 k5 k6 k7 k8 k9 k10 k11 k12 k13 k14 k15 t0 t1 t2 ch t4 t5 t6 t7 t13 nb2 nbt ns2 nst np npt nh nht false we2 wl2) 16) :: (xw, instObj 93 dw) :: (dt, dictOf (treeE w.params j0 j1 j2 j3 j4 j5 j6 dws u1 u2 u3 u4 u5 u6) 7) :: (xt, instObj 164 dt) :: (dws, ow) :: (add ++ tl)) → (∀ q ∈ add, @Ne Nat dw q.1 ∧ ∀ z ∈ tl, z.1 ≠ q.1) →
      (we2, listOf (List.toArray evs2) en2) ∈ add → DatAll (add ++ L9) evs2 (es.filter (rowNe b) ++ [rowD b st p h]) → evs2.length ≤ evs.length + 1 →
      (wl2, listOf (List.toArray lvs2) ln2) ∈ add → DatAll (add ++ L9) lvs2 (ls.filter (rowNe nb2)) → lvs2.length ≤ lvs.length → Q (.int nb2 t) { s with heap := h', toks := tk }) :
    wpAny (model Challenge.rw_np0058_01.row.prog w) (callerA.deeper env) (PySem.call (.ref 286) [.ref xt, .int 1 rt, .ref f] []) Q E s := by
  have hPR : PySem.Challenge.rw_np0058_01 = PySem.Challenge.rw_np0058_01 ∧ Mine.hd.heap_1 = Mine.hd.heap_1 := by
    k_fill
    exact ⟨rfl, rfl⟩
  have hKd := kdMark
  refine wpAny_call ?_
  ((refine' code_defC ?k1 ?k2 ?k3 ?k4 ?k5 ?kA ?kF ?kK ?k6 ?k7 ?k8 ?k9 ?kB ?kD ?_ ?c2 ?c3 ?c4; (case kA => exact rfl); (case kF => first | exact rfl | assumption); (case kK => first | exact rfl | assumption); (case k1 => k_asm); (case k2 => k_asm); (case k3 => k_asm); (case k4 => k_asm); (case k5 => k_asm); (case k6 => k_is); (case k7 => k_is); (case k8 => k_room); (case k9 => first | exact BindsTo.of_eq rfl | exact binds_K (by k_in) rfl (by k_is) rfl rfl rfl | fail "k_enter: no rule for these arguments"); (case kB => exact rfl); (case kD => decide +kernel); (case c2 => exact rfl); (case c3 => exact rfl); (case c4 => exact rfl); k_whole; walk_at "MINE inenterC"))
  (repeat' (first | (k_unfold; (try dsimp only)) | (walk_at "MINE stop"; walk1) | (dsimp only; walk_at "MINE stop"; walk1) | (dsimp only; k_unfold; (try dsimp only))))
  ((refine LCt.ListComp_T (F₀ := by k_asm) (by with_unfolding_all rfl) (by decide) (by rfl) (by decide) (by rfl) ?_))
  (repeat' (first | (k_unfold; (try dsimp only)) | (walk_at "MINE stop"; walk1) | (dsimp only; walk_at "MINE stop"; walk1) | (dsimp only; k_unfold; (try dsimp only))))
  (refine LCt.CompSrcT.ledger (by rfl) (by k_asm) (by k_asm) (by walk_at "MINE mem") (by rw [List.size_toArray, PySem.sizeLine_eq]; omega) ?_)
  intro g9
  refine Mine.filt_rest (fun _ => true) hLs (.inr ⟨_, by walk_at "MINE mem", rfl, _, rfl⟩) (by rfl) (by rfl) (by decide) ?_ ?_
  · intro v d I oI C oC D m₂ ys h tk E' hd hv hC hx F N off ne
    obtain ⟨r1, r2, r3, r4, rfl, rin⟩ := hns d hd
    obtain ⟨ra, rn, t1, t2, t3, t4, rfl, rm⟩ := dat_row hv
    replace rm := hL9 _ rm
    simp only [LCg.Off3] at off
    (repeat' (first | (k_unfold; (try dsimp only)) | (walk_at "MINE stop"; walk1) | (dsimp only; walk_at "MINE stop"; walk1) | (dsimp only; k_unfold; (try dsimp only))))
    refine callWith_F (FnAt.of (by k_asm) (by walk_at "MINE mem")) ?_
    (repeat' (first | (k_unfold; (try dsimp only)) | (walk_at "MINE stop"; walk1) | (dsimp only; walk_at "MINE stop"; walk1) | (dsimp only; k_unfold; (try dsimp only))))
    refine lam_call (by k_asm) (by k_asm) (by k_asm) (by k_asm) (by k_asm) rfl rfl (by k_room) (Nat.le_of_ble_eq_true rfl) (by walk_at "MINE mem") (by walk_at "MINE mem") hcd1 hcd2 (by walk_at "MINE mem") hcell2 (by walk_at "MINE mem") hlvD rin ?_
    intro h9 tk9 F9 N9
    (repeat' (first | (k_unfold; (try dsimp only)) | (walk_at "MINE stop"; walk1) | (dsimp only; walk_at "MINE stop"; walk1) | (dsimp only; k_unfold; (try dsimp only))))
    exact TestEnd.intro rfl (by k_asm) (by k_asm) fun _ h => h
  · intro ag hag hagl
    intro Dg h9 tk F9 N9 off9
    have onw9 : @Ne Nat dw Dg := off1_mem off9 (dw, _) (by walk_at "MINE mem")
    have e9 : ls.filter (fun _ => true) = ls := List.filter_eq_self.mpr (fun _ _ => rfl)
    rw [e9] at hag
    (repeat' (first | (k_unfold; (try dsimp only)) | (walk_at "MINE stop"; walk1) | (dsimp only; walk_at "MINE stop"; walk1) | (dsimp only; k_unfold; (try dsimp only))))
    refine eq_nil (by k_asm) (by walk_at "MINE mem") (by walk_at "MINE mem") hag (by exact fun z hz => (by have := hL9 z hz; repeat (first | assumption | refine List.Mem.tail _ ?_))) hLr (Nat.le_of_ble_eq_true rfl) ?_
    rcases hes : ls with _ | ⟨d, ls0⟩
    · rw [hes] at hag
      cases hag
      simp only [List.isEmpty_nil]
      (repeat' (first | (k_unfold; (try dsimp only)) | (walk_at "MINE stop"; walk1) | (dsimp only; walk_at "MINE stop"; walk1) | (dsimp only; k_unfold; (try dsimp only))))
      rename Fr g0 L _ m => kF
      rename News g0 L _ _ => kN
      refine hnil hes _ _ Dg 0 _ kF ⟨onw9, fun z hz => off1_mem off9 z (by repeat (first | exact hz | refine List.Mem.tail _ ?_))⟩ ?_
      intro p hp
      refine kN p ?_
      revert p
      walk_at "MINE sub"
    · have hr' : IsRow d := hLr d (by rw [hes]; exact .head _)
      obtain ⟨a1, a2, a3, a4, rfl⟩ := hr'
      have hag0 := hag
      rw [hes] at hag
      cases hag with
      | cons hv hr =>
      obtain ⟨ra, rn, x1, x2, x3, x4, rfl, rm⟩ := dat_row hv
      replace rm := hL9 _ rm
      simp only [List.isEmpty_cons]
      (repeat' (first | (k_unfold; (try dsimp only)) | (walk_at "MINE stop"; walk1) | (dsimp only; walk_at "MINE stop"; walk1) | (dsimp only; k_unfold; (try dsimp only))))
      refine without_call (by k_asm) (by k_asm) (by k_asm) (by k_asm) (by k_asm) rfl rfl (by k_room) (L9 := L9) (by exact fun z hz => (by have := hL9 z hz; repeat (first | assumption | refine List.Mem.tail _ ?_))) (by walk_at "MINE mem") (hEs) (hEr) (by omega) ?_
      intro D1 ys1 h1 tk1 hD1 hl1 F1 N1 off1
      have onw1 : @Ne Nat dw D1 := off1_mem off1 (dw, _) (by walk_at "MINE mem")
      (repeat' (first | (k_unfold; (try dsimp only)) | (walk_at "MINE stop"; walk1) | (dsimp only; walk_at "MINE stop"; walk1) | (dsimp only; k_unfold; (try dsimp only))))
      refine kup_newTuple (by k_asm) (by k_asm) ?_ (by size_fits)
      intro tp h2 F2 N2 lt2
      have raw2 := lt2
      (try k_lt lt2)
      (repeat' (first | (k_unfold; (try dsimp only)) | (walk_at "MINE stop"; walk1) | (dsimp only; walk_at "MINE stop"; walk1) | (dsimp only; k_unfold; (try dsimp only))))
      refine cat_rows (by k_asm) (by k_asm) (by walk_at "MINE mem") (by walk_at "MINE mem") (by simp only [List.length_cons, List.length_nil]; omega) ?_
      intro D3 h3 F3 N3 lt3
      have raw3 := lt3
      (try k_lt lt3)
      (repeat' (first | (k_unfold; (try dsimp only)) | (walk_at "MINE stop"; walk1) | (dsimp only; walk_at "MINE stop"; walk1) | (dsimp only; k_unfold; (try dsimp only))))
      refine item_at (by k_asm) (by walk_at "MINE mem") (by decide) (by decide) (by rfl) ?_
      (repeat' (first | (k_unfold; (try dsimp only)) | (walk_at "MINE stop"; walk1) | (dsimp only; walk_at "MINE stop"; walk1) | (dsimp only; k_unfold; (try dsimp only))))
      refine without_call (by k_asm) (by k_asm) (by k_asm) (by k_asm) (by k_asm) rfl rfl (by k_room) (L9 := L9) (by exact fun z hz => (by have := hL9 z hz; repeat (first | assumption | refine List.Mem.tail _ ?_))) (by walk_at "MINE mem") (hag0) (hLr) (by (simp only [List.length_append, List.length_cons, List.length_nil] at *; omega)) ?_
      intro D4 ys4 h4 tk4 hD4 hl4 F4 N4 off4
      have onw4 : @Ne Nat dw D4 := off1_mem off4 (dw, _) (by walk_at "MINE mem")
      (repeat' (first | (k_unfold; (try dsimp only)) | (walk_at "MINE stop"; walk1) | (dsimp only; walk_at "MINE stop"; walk1) | (dsimp only; k_unfold; (try dsimp only))))
      rename Fr g0 L _ m => kF
      rename News g0 L _ _ => kN
      refine' hcons ls0 a1 a2 a3 a4 hes _ _ [(D4, LCg.lst ys4), (D3, listOf (ys1 ++ [Value.ref tp]).toArray 0), (tp, tupObj [Value.int b bt, Value.int st stt, Value.int p pt, Value.int h ht] 0)] _ _ _ _ _ D3 D4 _ ys4 0 ys4.length kF ?nw ?fr (.tail _ (.head _)) ?d5 ?l5 (.head _) ?d4 ?l4
      case nw =>
        intro p hp
        refine kN p ?_
        revert p
        walk_at "MINE sub"
      case fr => exact fresh_cons ⟨onw4, fun z hz => off1_mem off4 z (by repeat (first | exact hz | refine List.Mem.tail _ ?_))⟩ (fresh_cons ⟨Nat.ne_of_lt (raw3 (dw, _) (by walk_at "MINE mem")), fun z hz => Nat.ne_of_lt (raw3 z (by repeat (first | exact hz | refine List.Mem.tail _ ?_)))⟩ (fresh_cons ⟨Nat.ne_of_lt (raw2 (dw, _) (by walk_at "MINE mem")), fun z hz => Nat.ne_of_lt (raw2 z (by repeat (first | exact hz | refine List.Mem.tail _ ?_)))⟩ fresh_nil))
      case d4 => exact DatAll.mono (fun p hp => List.mem_append.mpr (.inr hp)) hD4
      case l4 => omega
      case d5 => exact DatAll.append (DatAll.mono (fun p hp => List.mem_append.mpr (.inr hp)) hD1) (.cons (row_dat (.tail _ (.tail _ (.head _)))) .nil)
      case l5 => simp only [List.length_append, List.length_cons, List.length_nil]; omega

theorem replace_call {w : World} {base g0 : Heap} {env : Env} {mg mb : Str → Option Value} {mean : ExcName → Option Value} {loose : List Str} {L : Addr} {m : Str → Option Value} {s : Shared} {E : Value → Shared → Prop} {Q : Value → Shared → Prop} {k0 k1 k2 k3 k4 k5 k6 k7 k8 k9 k10 k11 k12 k13 k14 k15 : Tok} {t0 t1 t2 t4 t5 t6 t7 t13 : Tok} {ch : Addr} {j0 j1 j2 j3 j4 j5 j6 : Tok} {u1 u2 u3 u4 u5 u6 : Tok} {dws dw xw dt xt : Addr} {ow : Obj} {nm qual : Str} {q1 q2 q3 q4 : Pos} {cell f c' live : Addr} {pm ctv : Value} {oc ol : Obj} {ovs : Array Value} {tq : Tok} {lvv : List Value} {lvn : Nat} {ns : List Int}
    {b st p h : Int} {bt stt pt ht : Tok} {we wl : Addr} {tl : List (Addr × Obj)} {evs lvs : List Value} {en ln : Nat} {es ls : List Dat} {nb o : Int} {nt ot : Tok}
    (B : Below callerA base [] g0) (F : Fr g0 L s.heap m) (X : (Mine.hd.heap_1 w.params).In g0) (T : Top topProg loose mean mg mb g0) (hf : env.frame = some L) (hke : env.scope.kind = .function)
    (N : News g0 L s.heap ((dw, dictOf (winE w.params k0 k1 k2 k3 k4 k5 k6 k7 k8 k9 k10 k11 k12 k13 k14 k15 t0 t1 t2 ch t4 t5 t6 t7 t13 b bt st stt p pt h ht false we wl) 16) :: (xw, instObj 93 dw) :: (dt, dictOf (treeE w.params j0 j1 j2 j3 j4 j5 j6 dws u1 u2 u3 u4 u5 u6) 7) :: (xt, instObj 164 dt) :: (dws, ow) :: tl))
    {L9 : List (Addr × Obj)} (hL9 : ∀ p ∈ L9, p ∈ tl) (hOff : OwnOff tl [dw]) (hn1 : @Ne Nat dw xw) (hn2 : @Ne Nat dw dt) (hn3 : @Ne Nat dw xt) (hn4 : @Ne Nat dw dws) (hlo : (dws == sysModules) = false) (hOw : Obj.IsDictOf (intKind Challenge.rw_np0058_01.row.prog w) ow [(1, .ref xw)])
    (hE : (we, listOf evs.toArray en) ∈ tl) (hEs : DatAll L9 evs es) (hEr : ∀ d ∈ es, IsRow d) (hEl : evs.length ≤ 500)
    (hL : (wl, listOf lvs.toArray ln) ∈ tl) (hLs : DatAll L9 lvs ls) (hLr : ∀ d ∈ ls, IsRow d) (hLl : lvs.length ≤ 500)
    (hlam : (f, lamO nm qual q1 q2 q3 q4 cell pm c' ctv) ∈ tl) (hc : (c', oc) ∈ tl) (hcd1 : oc.data = .fields ovs) (hcd2 : ovs[1]? = some (.str qual tq)) (hcell : (cell, ol) ∈ tl) (hcell2 : ol.data = .cell (some (.ref live))) (hlv : (live, listOf lvv.toArray lvn) ∈ tl) (hlvD : DatAll [] lvv (ns.map Dat.int)) (hns : ∀ d ∈ es.filter (rowNe nb), RowIn ns d)
    (hpost : ∀ h' tk add (nb2 ns2 np nh : Int) (nbt nst npt nht : Tok) (we2 wl2 : Addr) evs2 lvs2 en2 ln2, rowD nb2 ns2 np nh = killRow (b == nb) o (rowD b st p h) (es.filter (rowNe nb)) →
      Fr g0 L h' m → News g0 L h' ((dw, dictOf (winE w.params k0 k1 k2 k3 k4 k5 k6 k7 k8 k9 k10 k11 k12 k13 k14 k15 t0 t1 t2 ch t4 t5 t6 t7 t13 nb2 nbt ns2 nst np npt nh nht false we2 wl2) 16) :: (xw, instObj 93 dw) :: (dt, dictOf (treeE w.params j0 j1 j2 j3 j4 j5 j6 dws u1 u2 u3 u4 u5 u6) 7) :: (xt, instObj 164 dt) :: (dws, ow) :: (add ++ tl)) → (∀ q ∈ add, @Ne Nat dw q.1 ∧ ∀ z ∈ tl, z.1 ≠ q.1) →
      (we2, listOf (List.toArray evs2) en2) ∈ add → DatAll (add ++ L9) evs2 (killE (b == nb) (es.filter (rowNe nb))) → evs2.length ≤ evs.length →
      (wl2, listOf (List.toArray lvs2) ln2) ∈ add → DatAll (add ++ L9) lvs2 (ls.filter (rowNe nb)) → lvs2.length ≤ lvs.length → Q .none { s with heap := h', toks := tk }) :
    wpAny (model Challenge.rw_np0058_01.row.prog w) (callerA.deeper env) (PySem.call (.ref 291) [.ref xt, .int nb nt, .ref f, .int o ot] []) Q E s := by
  have hPR : PySem.Challenge.rw_np0058_01 = PySem.Challenge.rw_np0058_01 ∧ Mine.hd.heap_1 = Mine.hd.heap_1 := by
    k_fill
    exact ⟨rfl, rfl⟩
  have hKd := kdMark
  refine wpAny_call ?_
  ((refine' code_defC ?k1 ?k2 ?k3 ?k4 ?k5 ?kA ?kF ?kK ?k6 ?k7 ?k8 ?k9 ?kB ?kD ?_ ?c2 ?c3 ?c4; (case kA => exact rfl); (case kF => first | exact rfl | assumption); (case kK => first | exact rfl | assumption); (case k1 => k_asm); (case k2 => k_asm); (case k3 => k_asm); (case k4 => k_asm); (case k5 => k_asm); (case k6 => k_is); (case k7 => k_is); (case k8 => k_room); (case k9 => first | exact BindsTo.of_eq rfl | exact binds_K (by k_in) rfl (by k_is) rfl rfl rfl | fail "k_enter: no rule for these arguments"); (case kB => exact rfl); (case kD => decide +kernel); (case c2 => exact rfl); (case c3 => exact rfl); (case c4 => exact rfl); k_whole; walk_at "MINE inenterC"))
  rename_i gR LR hR tkR FR0 FR BR XR TR lR oR1 oR2 dR1 dR2 NR
  refine re_led (dw := dw) [(dw, _), (xw, _), (dt, _), (xt, _), (dws, _)] ((LR + 1 + 1, oR1) :: (LR + 1, oR2) :: tl) NR (by walk_at "MINE sub") (off_cons (Nat.ne_of_gt (by omega)) (off_cons (Nat.ne_of_gt (by omega)) (fun p hp => hOff p hp dw (List.mem_singleton.mpr rfl)))) ?_
  intro tl3 hs3 hs3' hOff3 N3
  simp only [List.cons_append, List.nil_append] at N3
  have cR1 : (LR + 1 + 1, oR1) ∈ tl3 := hs3 _ (.head _)
  have cR2 : (LR + 1, oR2) ∈ tl3 := hs3 _ (.tail _ (.head _))
  have hTL3 : ∀ p ∈ tl, p ∈ tl3 := fun p hp => hs3 p (.tail _ (.tail _ hp))
  have hE3 := hTL3 _ hE
  have hL3 := hTL3 _ hL
  (repeat' (first | (k_unfold; (try dsimp only)) | (walk_at "MINE stop"; walk1) | (dsimp only; walk_at "MINE stop"; walk1) | (dsimp only; k_unfold; (try dsimp only))))
  ((refine LCt.ListComp_T (F₀ := by k_asm) (by with_unfolding_all rfl) (by decide) (by rfl) (by decide) (by rfl) ?_))
  (repeat' (first | (k_unfold; (try dsimp only)) | (walk_at "MINE stop"; walk1) | (dsimp only; walk_at "MINE stop"; walk1) | (dsimp only; k_unfold; (try dsimp only))))
  refine leaves_call (by k_asm) (by k_asm) (by k_asm) (by k_asm) rfl rfl (by k_room) (Nat.le_of_ble_eq_true rfl) (by k_asm) (by walk_at "MINE mem") (by walk_at "MINE mem") (by walk_at "MINE mem") (by walk_at "MINE mem") (by walk_at "MINE mem") hlo hOw ?_
  intro D1 n1 t1 h1 tk1 F1 N1 fr1
  refine LCt.CompSrcT.ledger (by rfl) (by k_asm) (by k_asm) (.head _) (Nat.le_of_ble_eq_true rfl) ?_
  intro g9
  refine Mine.filt_rest (L9 := []) (ds := [.int 1]) (fun _ => b == nb) (.cons (.int _ _) .nil) (.inr ⟨_, .head _, rfl, _, rfl⟩) (by rfl) (by rfl) (by decide) ?_ ?_
  · intro v d I oI C oC D m₂ ys h tk E' hd hv hC hx F N off ne
    obtain rfl := List.mem_singleton.mp hd
    cases hv
    simp only [LCg.Off3] at off
    (repeat' (first | (k_unfold; (try dsimp only)) | (walk_at "MINE stop"; walk1) | (dsimp only; walk_at "MINE stop"; walk1) | (dsimp only; k_unfold; (try dsimp only))))
    all_goals exact TestEnd.intro (by simp_all) (by k_asm) (by k_asm) fun _ h => h
  · intro ag hag hagl
    intro Dg h9 tk F9 N9 off9
    have onw9 : @Ne Nat dw Dg := off1_mem off9 (dw, _) (by walk_at "MINE mem")
    by_cases hb : b = nb
    · subst hb
      simp only [List.filter_cons, List.filter_nil, beq_self_eq_true, if_true] at hag
      cases hag with
      | cons hv hr =>
      cases hr
      cases hv
      (repeat' (first | (k_unfold; (try dsimp only)) | (walk_at "MINE stop"; walk1) | (dsimp only; walk_at "MINE stop"; walk1) | (dsimp only; k_unfold; (try dsimp only))))
      refine re_led (dw := dw) [(dw, _), (xw, _), (dt, _), (xt, _), (dws, _)] ((Dg, LCg.lst [Value.int 1 _]) :: tl3) (by k_asm) (by walk_at "MINE sub") (off_cons onw9.symm (fun p hp => hOff3 p hp dw (List.mem_singleton.mpr rfl))) ?_
      intro tl4 hs4 hsx4 hOff4 N4
      clear hsx4
      simp only [List.cons_append, List.nil_append] at N4
      have cA4 : (LR + 1 + 1, oR1) ∈ tl4 := hs4 _ (by repeat (first | assumption | refine List.Mem.tail _ ?_))
      have cB4 : (LR + 1, oR2) ∈ tl4 := hs4 _ (by repeat (first | assumption | refine List.Mem.tail _ ?_))
      have hTL4 : ∀ p ∈ tl, p ∈ tl4 := fun p hp => hs4 p (by have := hTL3 p hp; repeat (first | assumption | refine List.Mem.tail _ ?_))
      have hE4 := hTL4 _ hE
      have hL4 := hTL4 _ hL
      have c04 := hs4 _ (.head _)
      refine iter_listUnr (lo := LCg.lst [Value.int 1 _]) (vs := [Value.int 1 _]) (by rfl) (by k_asm) (by k_asm) (by walk_at "MINE mem") rfl rfl ?_
      intro I1 lI1
      have raw1 := lI1
      (try k_lt lI1)
      refine ListRest.succ (fun it h10 tk10 hic F10 N10 => ?_)
      (repeat' (first | (k_unfold; (try dsimp only)) | (walk_at "MINE stop"; walk1) | (dsimp only; walk_at "MINE stop"; walk1) | (dsimp only; k_unfold; (try dsimp only))))
      ((refine LCt.ListComp_T (F₀ := by k_asm) (by with_unfolding_all rfl) (by decide) (by rfl) (by decide) (by rfl) ?_))
      (repeat' (first | (k_unfold; (try dsimp only)) | (walk_at "MINE stop"; walk1) | (dsimp only; walk_at "MINE stop"; walk1) | (dsimp only; k_unfold; (try dsimp only))))
      (refine LCt.CompSrcT.ledger (by rfl) (by k_asm) (by k_asm) (by walk_at "MINE mem") (by rw [List.size_toArray, PySem.sizeLine_eq]; omega) ?_)
      intro g11
      refine Mine.filt_rest (L9 := L9) (rowNe b) hEs (.inr ⟨_, by walk_at "MINE mem", rfl, _, rfl⟩) (by rfl) (by rfl) (by decide) ?_ ?_
      · intro v d I oI C oC D m₂ ys h tk E' hd hv hC hx F N off ne
        obtain ⟨r1, r2, r3, r4, hdd⟩ := hEr d hd
        have hnd := hns d
        subst hdd
        obtain ⟨ra, rn, x1, x2, x3, x4, rfl, rm⟩ := dat_row hv
        simp only [LCg.Off3] at off
        have rm' := hTL4 _ (hL9 _ rm)
        have hlam4 := hTL4 _ hlam
        have hc4 := hTL4 _ hc
        have hcell4 := hTL4 _ hcell
        have hlv4 := hTL4 _ hlv
        (repeat' (first | (k_unfold; (try dsimp only)) | (walk_at "MINE stop"; walk1) | (dsimp only; walk_at "MINE stop"; walk1) | (dsimp only; k_unfold; (try dsimp only))))
        · have hne : r1 ≠ b := by assumption
          have rin := rowIn_mem (hnd (List.mem_filter.mpr ⟨hd, rowNe_mk hne⟩))
          refine callWith_F (FnAt.of (by k_asm) (by walk_at "MINE mem")) ?_
          (repeat' (first | (k_unfold; (try dsimp only)) | (walk_at "MINE stop"; walk1) | (dsimp only; walk_at "MINE stop"; walk1) | (dsimp only; k_unfold; (try dsimp only))))
          refine lam_call (by k_asm) (by k_asm) (by k_asm) (by k_asm) (by k_asm) rfl rfl (by k_room) (Nat.le_of_ble_eq_true rfl) (by walk_at "MINE mem") (by walk_at "MINE mem") hcd1 hcd2 (by walk_at "MINE mem") hcell2 (by walk_at "MINE mem") hlvD rin ?_
          intro h9 tk9 F9 N9
          (repeat' (first | (k_unfold; (try dsimp only)) | (walk_at "MINE stop"; walk1) | (dsimp only; walk_at "MINE stop"; walk1) | (dsimp only; k_unfold; (try dsimp only))))
          exact TestEnd.intro (rowNe_mk hne).symm (by k_asm) (by k_asm) fun _ h => h
        · have heq : r1 = b := by assumption
          exact TestEnd.intro (by rw [heq]; exact rowNe_eq.symm) (by k_asm) (by k_asm) fun _ h => h
      · intro ag2 hag2 hag2l
        intro Dg2 h11 tk11 F11 N11 off11
        have onw11 : @Ne Nat dw Dg2 := off1_mem off11 (dw, _) (by walk_at "MINE mem")
        (repeat' (first | (k_unfold; (try dsimp only)) | (walk_at "MINE stop"; walk1) | (dsimp only; walk_at "MINE stop"; walk1) | (dsimp only; k_unfold; (try dsimp only))))
        refine ne_nil (by k_asm) (by walk_at "MINE mem") (by walk_at "MINE mem") hag2 (by exact fun p hp => (by have := hTL4 p (hL9 p hp); repeat (first | assumption | refine List.Mem.tail _ ?_))) (rows_filter hEr) (Nat.le_of_ble_eq_true rfl) ?_
        rcases List.eq_nil_or_concat (es.filter (rowNe b)) with hes | ⟨es0, d, hes⟩
        · rw [hes] at hag2
          cases hag2
          rw [hes]
          simp only [List.isEmpty_nil, Bool.not_true]
          (repeat' (first | (k_unfold; (try dsimp only)) | (walk_at "MINE stop"; walk1) | (dsimp only; walk_at "MINE stop"; walk1) | (dsimp only; k_unfold; (try dsimp only))))
          refine kup_newTuple (by k_asm) (by k_asm) ?_ (by size_fits)
          intro tp h2 F2 N2 lt2
          have rawtp := lt2
          (try k_lt lt2)
          (repeat' (first | (k_unfold; (try dsimp only)) | (walk_at "MINE stop"; walk1) | (dsimp only; walk_at "MINE stop"; walk1) | (dsimp only; k_unfold; (try dsimp only))))
          refine' UnrEnd.intro (by k_asm) (by k_asm) ((Dg2, _) :: (dw, _) :: (xw, instObj 93 dw) :: (dt, _) :: (xt, instObj 164 dt) :: (dws, ow) :: tl4) ?vsub ?voff ⟨by walk_at "MINE mem", ListRest.zero ?vrest⟩
          case vsub => walk_at "MINE sub"
          case voff => exact off_cons (off1_mem off11 (I1, _) (by walk_at "MINE mem")).symm (off_cons (Nat.ne_of_lt lI1.1) (off_cons (Nat.ne_of_lt lI1.2.1) (off_cons (Nat.ne_of_lt lI1.2.2.1) (off_cons (Nat.ne_of_lt lI1.2.2.2.1) (off_cons (Nat.ne_of_lt lI1.2.2.2.2.1) (fun z hz => Nat.ne_of_lt (allLt_mem lI1.2.2.2.2.2 z hz)))))))
          case vrest =>
          intro h14 tk14 F14 N14
          refine re_led (dw := dw) [(dw, _), (xw, _), (dt, _), (xt, _), (dws, _)] ((Dg2, _) :: tl4) (by k_asm) (by walk_at "MINE sub") (off_cons onw11.symm (fun p hp => hOff4 p hp dw (List.mem_singleton.mpr rfl))) ?_
          intro tl5 hs5 hsx5 hOff5 N5
          clear hsx5
          simp only [List.cons_append, List.nil_append] at N5
          have cA5 : (LR + 1 + 1, oR1) ∈ tl5 := hs5 _ (by repeat (first | assumption | refine List.Mem.tail _ ?_))
          have cB5 : (LR + 1, oR2) ∈ tl5 := hs5 _ (by repeat (first | assumption | refine List.Mem.tail _ ?_))
          have hTL5 : ∀ p ∈ tl, p ∈ tl5 := fun p hp => hs5 p (by have := hTL4 p hp; repeat (first | assumption | refine List.Mem.tail _ ?_))
          have hE5 := hTL5 _ hE
          have hL5 := hTL5 _ hL
          have c05 := hs5 _ (.head _)
          (repeat' (first | (k_unfold; (try dsimp only)) | (walk_at "MINE stop"; walk1) | (dsimp only; walk_at "MINE stop"; walk1) | (dsimp only; k_unfold; (try dsimp only))))
          refine leaves_call (by k_asm) (by k_asm) (by k_asm) (by k_asm) rfl rfl (by k_room) (Nat.le_of_ble_eq_true rfl) (by k_asm) (by walk_at "MINE mem") (by walk_at "MINE mem") (by walk_at "MINE mem") (by walk_at "MINE mem") (by walk_at "MINE mem") hlo hOw ?_
          intro D5 n5 t5 h5 tk5 F5 N5 fr5
          have onw5 : @Ne Nat dw D5 := fr5 (dw, _) (by walk_at "MINE mem")
          (repeat' (first | (k_unfold; (try dsimp only)) | (walk_at "MINE stop"; walk1) | (dsimp only; walk_at "MINE stop"; walk1) | (dsimp only; k_unfold; (try dsimp only))))
          refine iter_listUnr (lo := listOf [Value.int 1 t5].toArray n5) (vs := [Value.int 1 t5]) (by rfl) (by k_asm) (by k_asm) (.head _) rfl rfl ?_
          intro I2 lI2
          have raw2 := lI2
          (try k_lt lI2)
          refine ListRest.succ (fun it2 h12 tk12 hic2 F12 N12 => ?_)
          (repeat' (first | (k_unfold; (try dsimp only)) | (walk_at "MINE stop"; walk1) | (dsimp only; walk_at "MINE stop"; walk1) | (dsimp only; k_unfold; (try dsimp only))))
          refine without_call (by k_asm) (by k_asm) (by k_asm) (by k_asm) (by k_asm) rfl rfl (by k_room) (L9 := L9) (by exact fun p hp => (by have := hTL5 p (hL9 p hp); repeat (first | assumption | refine List.Mem.tail _ ?_))) (by walk_at "MINE mem") ((.nil : DatAll L9 [] [])) ((fun _ h => nomatch h)) (by omega) ?_
          intro D6 ys6 h6 tk6 hD6 hl6 F6 N6 off6
          have onw6 : @Ne Nat dw D6 := off1_mem off6 (dw, _) (by walk_at "MINE mem")
          (repeat' (first | (k_unfold; (try dsimp only)) | (walk_at "MINE stop"; walk1) | (dsimp only; walk_at "MINE stop"; walk1) | (dsimp only; k_unfold; (try dsimp only))))
          refine without_call (by k_asm) (by k_asm) (by k_asm) (by k_asm) (by k_asm) rfl rfl (by k_room) (L9 := L9) (by exact fun p hp => (by have := hTL5 p (hL9 p hp); repeat (first | assumption | refine List.Mem.tail _ ?_))) (by walk_at "MINE mem") (hLs) (hLr) (by omega) ?_
          intro D7 ys7 h7 tk7 hD7 hl7 F7 N7 off7
          have onw7 : @Ne Nat dw D7 := off1_mem off7 (dw, _) (by walk_at "MINE mem")
          (repeat' (first | (k_unfold; (try dsimp only)) | (walk_at "MINE stop"; walk1) | (dsimp only; walk_at "MINE stop"; walk1) | (dsimp only; k_unfold; (try dsimp only))))
          refine' UnrEnd.intro (by k_asm) (by k_asm) ((D7, LCg.lst ys7) :: (D6, LCg.lst ys6) :: (D5, listOf [Value.int 1 t5].toArray n5) :: (dw, _) :: (xw, instObj 93 dw) :: (dt, _) :: (xt, instObj 164 dt) :: (dws, ow) :: tl5) ?usub ?uoff ⟨.tail _ (.tail _ (.head _)), ListRest.zero ?urest⟩
          case usub => walk_at "MINE sub"
          case uoff => exact off_cons (off1_mem off7 (I2, _) (by walk_at "MINE mem")).symm (off_cons (off1_mem off6 (I2, _) (by walk_at "MINE mem")).symm (off_cons (Nat.ne_of_lt lI2.1) (off_cons (Nat.ne_of_lt lI2.2.1) (off_cons (Nat.ne_of_lt lI2.2.2.1) (off_cons (Nat.ne_of_lt lI2.2.2.2.1) (off_cons (Nat.ne_of_lt lI2.2.2.2.2.1) (off_cons (Nat.ne_of_lt lI2.2.2.2.2.2.1) (fun z hz => Nat.ne_of_lt (allLt_mem lI2.2.2.2.2.2.2 z hz)))))))))
          case urest =>
            intro h13 tk13 F13 N13
            (repeat' (first | (k_unfold; (try dsimp only)) | (walk_at "MINE stop"; walk1) | (dsimp only; walk_at "MINE stop"; walk1) | (dsimp only; k_unfold; (try dsimp only))))
            rename Fr g0 L _ m => kF
            rename News g0 L _ _ => kN
            refine' hpost _ _ [(D7, LCg.lst ys7), (D6, LCg.lst ys6)] o 1 1 0 _ _ _ _ D6 D7 ys6 ys7 ys6.length ys7.length ?hd kF ?nw ?fr (.tail _ (.head _)) ?d6 ?l6 (.head _) ?d7 ?l7
            case nw =>
              simp only [List.cons_append, List.nil_append]
              intro z hz
              refine kN z ?_
              revert z
              iterate 7 (refine List.forall_mem_cons.mpr ⟨by walk_at "MINE mem", ?_⟩)
              exact fun z hz => (by have := hTL5 z hz; repeat (first | assumption | refine List.Mem.tail _ ?_))
            case hd => rw [hes]; simp [killRow]
            case fr => exact fresh_cons ⟨onw7, fun z hz => off1_mem off7 z (by have := hTL5 z hz; repeat (first | assumption | refine List.Mem.tail _ ?_))⟩ (fresh_cons ⟨onw6, fun z hz => off1_mem off6 z (by have := hTL5 z hz; repeat (first | assumption | refine List.Mem.tail _ ?_))⟩ fresh_nil)
            case d6 => rw [hes]; refine DatAll.mono (fun z hz => List.mem_append.mpr (.inr hz)) ?_; simpa [killE] using hD6
            case l6 => (simp only [List.length_nil] at hl6; omega)
            case d7 => exact DatAll.mono (fun z hz => List.mem_append.mpr (.inr hz)) hD7
            case l7 => exact hl7
        · rw [List.concat_eq_append] at hes
          rw [hes] at hag2
          have hr' : IsRow d := rows_filter hEr d (by rw [hes]; exact List.mem_append.mpr (.inr (.head _)))
          obtain ⟨a1, a2, a3, a4, rfl⟩ := hr'
          obtain ⟨vs, v, rfl, hv0, hv⟩ := datall_concat hag2
          obtain ⟨ra, rn, x1, x2, x3, x4, rfl, rm⟩ := dat_row hv
          have rm' := hTL4 _ (hL9 _ rm)
          have ee : (es.filter (rowNe b)).isEmpty = false := by rw [hes]; simp
          rw [ee]
          simp only [Bool.not_false]
          (repeat' (first | (k_unfold; (try dsimp only)) | (walk_at "MINE stop"; walk1) | (dsimp only; walk_at "MINE stop"; walk1) | (dsimp only; k_unfold; (try dsimp only))))
          dsimp only
          have oI : @Ne Nat I1 Dg2 := off1_mem off11 (I1, _) (by walk_at "MINE mem")
          have ox : @Ne Nat xw Dg2 := off1_mem off11 (xw, _) (by walk_at "MINE mem")
          have od : @Ne Nat dt Dg2 := off1_mem off11 (dt, _) (by walk_at "MINE mem")
          have ot' : @Ne Nat xt Dg2 := off1_mem off11 (xt, _) (by walk_at "MINE mem")
          have os : @Ne Nat dws Dg2 := off1_mem off11 (dws, _) (by walk_at "MINE mem")
          have hOffG : OwnOff tl4 [Dg2] := fun z hz b hb => by rw [List.mem_singleton.mp hb]; exact off1_mem off11 z (by repeat (first | assumption | refine List.Mem.tail _ ?_))
          refine pop_last (by k_asm) (by k_asm) (by k_upd) (by have := hag2l; rw [List.length_append] at this; omega) ?_
          intro h2 F2 N2
          (repeat' (first | (k_unfold; (try dsimp only)) | (walk_at "MINE stop"; walk1) | (dsimp only; walk_at "MINE stop"; walk1) | (dsimp only; k_unfold; (try dsimp only))))
          have hvsl : vs.length + 1 ≤ evs.length := by simpa using hag2l
          refine' UnrEnd.intro (by k_asm) (by k_asm) ((Dg2, _) :: (dw, _) :: (xw, instObj 93 dw) :: (dt, _) :: (xt, instObj 164 dt) :: (dws, ow) :: tl4) ?vsub ?voff ⟨by walk_at "MINE mem", ListRest.zero ?vrest⟩
          case vsub => walk_at "MINE sub"
          case voff => exact off_cons (off1_mem off11 (I1, _) (by walk_at "MINE mem")).symm (off_cons (Nat.ne_of_lt lI1.1) (off_cons (Nat.ne_of_lt lI1.2.1) (off_cons (Nat.ne_of_lt lI1.2.2.1) (off_cons (Nat.ne_of_lt lI1.2.2.2.1) (off_cons (Nat.ne_of_lt lI1.2.2.2.2.1) (fun z hz => Nat.ne_of_lt (allLt_mem lI1.2.2.2.2.2 z hz)))))))
          case vrest =>
          intro h14 tk14 F14 N14
          refine re_led (dw := dw) [(dw, _), (xw, _), (dt, _), (xt, _), (dws, _)] ((Dg2, _) :: tl4) (by k_asm) (by walk_at "MINE sub") (off_cons onw11.symm (fun p hp => hOff4 p hp dw (List.mem_singleton.mpr rfl))) ?_
          intro tl5 hs5 hsx5 hOff5 N5
          clear hsx5
          simp only [List.cons_append, List.nil_append] at N5
          have cA5 : (LR + 1 + 1, oR1) ∈ tl5 := hs5 _ (by repeat (first | assumption | refine List.Mem.tail _ ?_))
          have cB5 : (LR + 1, oR2) ∈ tl5 := hs5 _ (by repeat (first | assumption | refine List.Mem.tail _ ?_))
          have hTL5 : ∀ p ∈ tl, p ∈ tl5 := fun p hp => hs5 p (by have := hTL4 p hp; repeat (first | assumption | refine List.Mem.tail _ ?_))
          have hE5 := hTL5 _ hE
          have hL5 := hTL5 _ hL
          have c05 := hs5 _ (.head _)
          (repeat' (first | (k_unfold; (try dsimp only)) | (walk_at "MINE stop"; walk1) | (dsimp only; walk_at "MINE stop"; walk1) | (dsimp only; k_unfold; (try dsimp only))))
          refine leaves_call (by k_asm) (by k_asm) (by k_asm) (by k_asm) rfl rfl (by k_room) (Nat.le_of_ble_eq_true rfl) (by k_asm) (by walk_at "MINE mem") (by walk_at "MINE mem") (by walk_at "MINE mem") (by walk_at "MINE mem") (by walk_at "MINE mem") hlo hOw ?_
          intro D5 n5 t5 h5 tk5 F5 N5 fr5
          have onw5 : @Ne Nat dw D5 := fr5 (dw, _) (by walk_at "MINE mem")
          (repeat' (first | (k_unfold; (try dsimp only)) | (walk_at "MINE stop"; walk1) | (dsimp only; walk_at "MINE stop"; walk1) | (dsimp only; k_unfold; (try dsimp only))))
          refine iter_listUnr (lo := listOf [Value.int 1 t5].toArray n5) (vs := [Value.int 1 t5]) (by rfl) (by k_asm) (by k_asm) (.head _) rfl rfl ?_
          intro I2 lI2
          have raw2 := lI2
          (try k_lt lI2)
          refine ListRest.succ (fun it2 h12 tk12 hic2 F12 N12 => ?_)
          (repeat' (first | (k_unfold; (try dsimp only)) | (walk_at "MINE stop"; walk1) | (dsimp only; walk_at "MINE stop"; walk1) | (dsimp only; k_unfold; (try dsimp only))))
          refine without_call (by k_asm) (by k_asm) (by k_asm) (by k_asm) (by k_asm) rfl rfl (by k_room) (L9 := L9) (by exact fun p hp => (by have := hTL5 p (hL9 p hp); repeat (first | assumption | refine List.Mem.tail _ ?_))) (by walk_at "MINE mem") (hv0) ((fun d hd => rows_filter hEr d (by rw [hes]; exact List.mem_append.mpr (.inl hd)))) (by omega) ?_
          intro D6 ys6 h6 tk6 hD6 hl6 F6 N6 off6
          have onw6 : @Ne Nat dw D6 := off1_mem off6 (dw, _) (by walk_at "MINE mem")
          (repeat' (first | (k_unfold; (try dsimp only)) | (walk_at "MINE stop"; walk1) | (dsimp only; walk_at "MINE stop"; walk1) | (dsimp only; k_unfold; (try dsimp only))))
          refine without_call (by k_asm) (by k_asm) (by k_asm) (by k_asm) (by k_asm) rfl rfl (by k_room) (L9 := L9) (by exact fun p hp => (by have := hTL5 p (hL9 p hp); repeat (first | assumption | refine List.Mem.tail _ ?_))) (by walk_at "MINE mem") (hLs) (hLr) (by omega) ?_
          intro D7 ys7 h7 tk7 hD7 hl7 F7 N7 off7
          have onw7 : @Ne Nat dw D7 := off1_mem off7 (dw, _) (by walk_at "MINE mem")
          (repeat' (first | (k_unfold; (try dsimp only)) | (walk_at "MINE stop"; walk1) | (dsimp only; walk_at "MINE stop"; walk1) | (dsimp only; k_unfold; (try dsimp only))))
          refine' UnrEnd.intro (by k_asm) (by k_asm) ((D7, LCg.lst ys7) :: (D6, LCg.lst ys6) :: (D5, listOf [Value.int 1 t5].toArray n5) :: (dw, _) :: (xw, instObj 93 dw) :: (dt, _) :: (xt, instObj 164 dt) :: (dws, ow) :: tl5) ?usub ?uoff ⟨.tail _ (.tail _ (.head _)), ListRest.zero ?urest⟩
          case usub => walk_at "MINE sub"
          case uoff => exact off_cons (off1_mem off7 (I2, _) (by walk_at "MINE mem")).symm (off_cons (off1_mem off6 (I2, _) (by walk_at "MINE mem")).symm (off_cons (Nat.ne_of_lt lI2.1) (off_cons (Nat.ne_of_lt lI2.2.1) (off_cons (Nat.ne_of_lt lI2.2.2.1) (off_cons (Nat.ne_of_lt lI2.2.2.2.1) (off_cons (Nat.ne_of_lt lI2.2.2.2.2.1) (off_cons (Nat.ne_of_lt lI2.2.2.2.2.2.1) (fun z hz => Nat.ne_of_lt (allLt_mem lI2.2.2.2.2.2.2 z hz)))))))))
          case urest =>
            intro h13 tk13 F13 N13
            (repeat' (first | (k_unfold; (try dsimp only)) | (walk_at "MINE stop"; walk1) | (dsimp only; walk_at "MINE stop"; walk1) | (dsimp only; k_unfold; (try dsimp only))))
            rename Fr g0 L _ m => kF
            rename News g0 L _ _ => kN
            refine' hpost _ _ [(D7, LCg.lst ys7), (D6, LCg.lst ys6)] a1 a2 a3 a4 _ _ _ _ D6 D7 ys6 ys7 ys6.length ys7.length ?hd kF ?nw ?fr (.tail _ (.head _)) ?d6 ?l6 (.head _) ?d7 ?l7
            case nw =>
              simp only [List.cons_append, List.nil_append]
              intro z hz
              refine kN z ?_
              revert z
              iterate 7 (refine List.forall_mem_cons.mpr ⟨by walk_at "MINE mem", ?_⟩)
              exact fun z hz => (by have := hTL5 z hz; repeat (first | assumption | refine List.Mem.tail _ ?_))
            case hd => rw [hes]; simp [killRow]
            case fr => exact fresh_cons ⟨onw7, fun z hz => off1_mem off7 z (by have := hTL5 z hz; repeat (first | assumption | refine List.Mem.tail _ ?_))⟩ (fresh_cons ⟨onw6, fun z hz => off1_mem off6 z (by have := hTL5 z hz; repeat (first | assumption | refine List.Mem.tail _ ?_))⟩ fresh_nil)
            case d6 => have e0 := filter_pre hes; rw [e0] at hD6; rw [hes]; refine DatAll.mono (fun z hz => List.mem_append.mpr (.inr hz)) ?_; simpa [killE] using hD6
            case l6 => omega
            case d7 => exact DatAll.mono (fun z hz => List.mem_append.mpr (.inr hz)) hD7
            case l7 => exact hl7
    · have hb' : (b == nb) = false := by simpa using hb
      simp only [List.filter_cons, List.filter_nil, hb', Bool.false_eq_true, if_false] at hag
      cases hag
      (repeat' (first | (k_unfold; (try dsimp only)) | (walk_at "MINE stop"; walk1) | (dsimp only; walk_at "MINE stop"; walk1) | (dsimp only; k_unfold; (try dsimp only))))
      refine re_led (dw := dw) [(dw, _), (xw, _), (dt, _), (xt, _), (dws, _)] ((Dg, LCg.lst []) :: tl3) (by k_asm) (by walk_at "MINE sub") (off_cons onw9.symm (fun p hp => hOff3 p hp dw (List.mem_singleton.mpr rfl))) ?_
      intro tl4 hs4 hsx4 hOff4 N4
      clear hsx4
      simp only [List.cons_append, List.nil_append] at N4
      have cA4 : (LR + 1 + 1, oR1) ∈ tl4 := hs4 _ (by repeat (first | assumption | refine List.Mem.tail _ ?_))
      have cB4 : (LR + 1, oR2) ∈ tl4 := hs4 _ (by repeat (first | assumption | refine List.Mem.tail _ ?_))
      have hTL4 : ∀ p ∈ tl, p ∈ tl4 := fun p hp => hs4 p (by have := hTL3 p hp; repeat (first | assumption | refine List.Mem.tail _ ?_))
      have hE4 := hTL4 _ hE
      have hL4 := hTL4 _ hL
      have c04 := hs4 _ (.head _)
      refine iter_listUnr (lo := LCg.lst []) (vs := []) (by rfl) (by k_asm) (by k_asm) (by walk_at "MINE mem") rfl rfl ?_
      intro I1 lI1
      clear lI1
      refine ListRest.zero (fun h10 tk10 F10 N10 => ?_)
      (repeat' (first | (k_unfold; (try dsimp only)) | (walk_at "MINE stop"; walk1) | (dsimp only; walk_at "MINE stop"; walk1) | (dsimp only; k_unfold; (try dsimp only))))
      refine leaves_call (by k_asm) (by k_asm) (by k_asm) (by k_asm) rfl rfl (by k_room) (Nat.le_of_ble_eq_true rfl) (by k_asm) (by walk_at "MINE mem") (by walk_at "MINE mem") (by walk_at "MINE mem") (by walk_at "MINE mem") (by walk_at "MINE mem") hlo hOw ?_
      intro D5 n5 t5 h5 tk5 F5 N5 fr5
      have onw5 : @Ne Nat dw D5 := fr5 (dw, _) (by walk_at "MINE mem")
      (repeat' (first | (k_unfold; (try dsimp only)) | (walk_at "MINE stop"; walk1) | (dsimp only; walk_at "MINE stop"; walk1) | (dsimp only; k_unfold; (try dsimp only))))
      refine iter_listUnr (lo := listOf [Value.int 1 t5].toArray n5) (vs := [Value.int 1 t5]) (by rfl) (by k_asm) (by k_asm) (.head _) rfl rfl ?_
      intro I2 lI2
      have raw2 := lI2
      (try k_lt lI2)
      refine ListRest.succ (fun it2 h12 tk12 hic2 F12 N12 => ?_)
      (repeat' (first | (k_unfold; (try dsimp only)) | (walk_at "MINE stop"; walk1) | (dsimp only; walk_at "MINE stop"; walk1) | (dsimp only; k_unfold; (try dsimp only))))
      refine without_call (by k_asm) (by k_asm) (by k_asm) (by k_asm) (by k_asm) rfl rfl (by k_room) (L9 := L9) (by exact fun p hp => (by have := hTL4 p (hL9 p hp); repeat (first | assumption | refine List.Mem.tail _ ?_))) (by walk_at "MINE mem") (hEs) (hEr) (by omega) ?_
      intro D6 ys6 h6 tk6 hD6 hl6 F6 N6 off6
      have onw6 : @Ne Nat dw D6 := off1_mem off6 (dw, _) (by walk_at "MINE mem")
      (repeat' (first | (k_unfold; (try dsimp only)) | (walk_at "MINE stop"; walk1) | (dsimp only; walk_at "MINE stop"; walk1) | (dsimp only; k_unfold; (try dsimp only))))
      refine without_call (by k_asm) (by k_asm) (by k_asm) (by k_asm) (by k_asm) rfl rfl (by k_room) (L9 := L9) (by exact fun p hp => (by have := hTL4 p (hL9 p hp); repeat (first | assumption | refine List.Mem.tail _ ?_))) (by walk_at "MINE mem") (hLs) (hLr) (by omega) ?_
      intro D7 ys7 h7 tk7 hD7 hl7 F7 N7 off7
      have onw7 : @Ne Nat dw D7 := off1_mem off7 (dw, _) (by walk_at "MINE mem")
      (repeat' (first | (k_unfold; (try dsimp only)) | (walk_at "MINE stop"; walk1) | (dsimp only; walk_at "MINE stop"; walk1) | (dsimp only; k_unfold; (try dsimp only))))
      refine' UnrEnd.intro (by k_asm) (by k_asm) ((D7, LCg.lst ys7) :: (D6, LCg.lst ys6) :: (D5, listOf [Value.int 1 t5].toArray n5) :: (dw, _) :: (xw, instObj 93 dw) :: (dt, _) :: (xt, instObj 164 dt) :: (dws, ow) :: tl4) ?usub ?uoff ⟨.tail _ (.tail _ (.head _)), ListRest.zero ?urest⟩
      case usub => walk_at "MINE sub"
      case uoff => exact off_cons (off1_mem off7 (I2, _) (by walk_at "MINE mem")).symm (off_cons (off1_mem off6 (I2, _) (by walk_at "MINE mem")).symm (off_cons (Nat.ne_of_lt lI2.1) (off_cons (Nat.ne_of_lt lI2.2.1) (off_cons (Nat.ne_of_lt lI2.2.2.1) (off_cons (Nat.ne_of_lt lI2.2.2.2.1) (off_cons (Nat.ne_of_lt lI2.2.2.2.2.1) (off_cons (Nat.ne_of_lt lI2.2.2.2.2.2.1) (fun z hz => Nat.ne_of_lt (allLt_mem lI2.2.2.2.2.2.2 z hz)))))))))
      case urest =>
        intro h13 tk13 F13 N13
        (repeat' (first | (k_unfold; (try dsimp only)) | (walk_at "MINE stop"; walk1) | (dsimp only; walk_at "MINE stop"; walk1) | (dsimp only; k_unfold; (try dsimp only))))
        rename Fr g0 L _ m => kF
        rename News g0 L _ _ => kN
        refine' hpost _ _ [(D7, LCg.lst ys7), (D6, LCg.lst ys6)] b st p h _ _ _ _ D6 D7 ys6 ys7 ys6.length ys7.length ?hd kF ?nw ?fr (.tail _ (.head _)) ?d6 ?l6 (.head _) ?d7 ?l7
        case nw =>
          simp only [List.cons_append, List.nil_append]
          intro z hz
          refine kN z ?_
          revert z
          iterate 7 (refine List.forall_mem_cons.mpr ⟨by walk_at "MINE mem", ?_⟩)
          exact fun z hz => (by have := hTL4 z hz; repeat (first | assumption | refine List.Mem.tail _ ?_))
        case hd => rw [hb']; rfl
        case fr => exact fresh_cons ⟨onw7, fun z hz => off1_mem off7 z (by have := hTL4 z hz; repeat (first | assumption | refine List.Mem.tail _ ?_))⟩ (fresh_cons ⟨onw6, fun z hz => off1_mem off6 z (by have := hTL4 z hz; repeat (first | assumption | refine List.Mem.tail _ ?_))⟩ fresh_nil)
        case d6 => rw [hb']; exact DatAll.mono (fun z hz => List.mem_append.mpr (.inr hz)) hD6
        case l6 => omega
        case d7 => exact DatAll.mono (fun z hz => List.mem_append.mpr (.inr hz)) hD7
        case l7 => exact hl7

def CodeOk (qual : Str) (L9 : List (Addr × Obj)) (v : Value) : Prop := ∃ c' oc vs t, v = .ref c' ∧ (c', oc) ∈ L9 ∧ oc.data = .fields vs ∧ vs[1]? = some (.str qual t)
theorem CodeOk.mono {qual : Str} {L9 L9' : List (Addr × Obj)} {v : Value} (h : CodeOk qual L9 v) (s : ∀ p ∈ L9, p ∈ L9') : CodeOk qual L9' v := by
  obtain ⟨c', oc, vs, t, a, b, c, d⟩ := h
  exact ⟨c', oc, vs, t, a, s _ b, c, d⟩
def TabOk (qual : Str) (ps : Array Value) (L9 : List (Addr × Obj)) : Prop := TriplesOk ps.toList ∧ ∀ pos v, codeAmong pos ps.toList = some v → CodeOk qual L9 v
theorem TabOk.mono {qual : Str} {ps : Array Value} {L9 L9' : List (Addr × Obj)} (h : TabOk qual ps L9) (s : ∀ p ∈ L9, p ∈ L9') : TabOk qual ps L9' := ⟨h.1, fun pos v e => (h.2 pos v e).mono s⟩
theorem among_snoc {pos : Pos} {a b : Int} {c v : Value} (l : List Value) (h : TriplesOk l) (e : codeAmong pos (l ++ [rawInt a, rawInt b, c]) = some v) : codeAmong pos l = some v ∨ v = c := by
  fun_induction TriplesOk l with
  | case1 =>
    simp only [List.nil_append, codeAmong, rawInt] at e
    split at e
    · exact .inr (Option.some.inj e).symm
    · cases e
  | case2 a' t b' u x rest ih =>
    simp only [List.cons_append, codeAmong] at e ⊢
    split at e
    · rename_i hc; rw [if_pos hc]; exact .inl e
    · rename_i hc; rw [if_neg hc]; exact ih h e
  | case3 l h1 h2 => exact h.elim
section
variable {M : Model} {A : Around} {E : Value → Shared → Prop} {s : Shared} {h₀ : Heap} {L a c P : Addr} {m mg mb : Str → Option Value} {cn : Str} {cs : Scope} {ccd : Value} {cl : List (Str × Addr)} {news : List (Addr × Obj)} {g : Obj → List (Addr × Obj)}
  {p : Program} {loose : List Str} {mean : ExcName → Option Value} {q1 q2 q3 q4 pos : Pos} {ps : Array Value} {cell : Addr} {L9 : List (Addr × Obj)} {Q : Value → Shared → Prop}
theorem lam_eval (F : Fr h₀ L s.heap m) (N : News h₀ L s.heap news) (T : Top p loose mean mg mb h₀) (C : CodeHd h₀ c P) (hcd : ccd = .ref c) (U : UpdF P (tabObj ps) news g) (hsub : ∀ q ∈ L9, q ∈ news)
    (ht : TabOk ((envX cn cs L a ccd cl).qual ++ "<lambda>") ps L9) (hcl : closureFor lamS (envX cn cs L a ccd cl) = pure [(Str.ofString "live", cell)])
    (h : ∀ f c' oc vs t ctv ps' add h' tk, Fr h₀ L h' m → News h₀ L h' ((f, lamO "<lambda>" ((envX cn cs L a ccd cl).qual ++ "<lambda>") q1 q2 q3 q4 cell ((mg "__name__").getD .none) c' ctv) :: (add ++ g (tabObj ps'))) →
      TabOk ((envX cn cs L a ccd cl).qual ++ "<lambda>") ps' (add ++ L9) → (c', oc) ∈ add ++ L9 → oc.data = .fields vs → vs[1]? = some (.str ((envX cn cs L a ccd cl).qual ++ "<lambda>") t) →
      (∀ q ∈ add, ∀ z ∈ news, z.1 ≠ q.1) → (∀ z ∈ news, z.1 ≠ f) → Q (.ref f) { s with heap := h', toks := tk }) :
    wpAny M A (eval (.Lambda (lamP q1) (lamB q2 q3 q4) lamS pos) (envX cn cs L a ccd cl)) Q E s := by
  obtain ⟨pre, post, hn, hg, _, _⟩ := U.split
  have hP : (P, tabObj ps) ∈ news := by rw [hn]; exact List.mem_append_right _ (.head _)
  refine kla_eval (by rfl) ?_
  rcases hca : codeAmong pos ps.toList with _ | v
  · refine kla_nest F N T C hcd U ht.1 hca hcl ?_
    intro f c' oc vs t ctv h' tk F' N' e1 e2 lt1 lt2
    refine h f c' oc vs t ctv _ [(c', oc)] h' tk F' N' ?_ (.head _) e1 e2 ?_ ?_
    · refine ⟨?_, ?_⟩
      · rw [Array.toList_append]; exact TriplesOk_snoc _ _ _ _ ht.1
      · intro pos' v' e'
        rw [Array.toList_append] at e'
        rcases among_snoc _ ht.1 e' with e' | e'
        · exact (ht.2 _ _ e').mono fun q hq => .tail _ hq
        · exact ⟨c', oc, vs, t, e', .head _, e1, e2⟩
    · intro q hq z hz
      rw [List.mem_singleton.mp hq]
      exact Nat.ne_of_lt (lt1 z hz)
    · exact fun z hz => Nat.ne_of_lt (Nat.lt_trans (lt1 z hz) lt2)
  · obtain ⟨c', oc, vs, t, rfl, hm, e1, e2⟩ := ht.2 _ _ hca
    refine kla_hit F N T C hcd hP ht.1 hca hcl ?_
    intro f ctv h' tk F' N' lt1
    refine h f c' oc vs t ctv ps [] h' tk F' ?_ ht hm e1 e2 (fun _ hq => nomatch hq) (fun z hz => Nat.ne_of_lt (lt1 z hz))
    rw [hg]
    rw [hn] at N'
    exact N'
end
theorem draw_led {w : World} {A₀ : Around} {base g0 : Heap} {outer : List Env} {env : Env} {dep un : Nat} {gd : Option (List Code)} {mg mb : Str → Option Value} {mean : ExcName → Option Value} {loose : List Str} {L : Addr} {m : Str → Option Value} {s : Shared} {E : Value → Shared → Prop} {Q : Value → Shared → Prop}
    {dk dl : Addr} {ys : List Value} {zs : List Int} {d : Int} {dkt : Tok} {dn : Nat} {news : List (Addr × Obj)} {g : Obj → List (Addr × Obj)}
    (B : Below A₀ base outer g0) (F : Fr g0 L s.heap m) (X : (Mine.hd.heap_1 w.params).In g0) (N : News g0 L s.heap news) (T : Top topProg loose mean mg mb g0) (hf : env.frame = some L) (hke : env.scope.kind = .function) (hdep : dep + 5 < recursionLimit)
    (U : UpdF dk (listOf #[.ref dl, .int d dkt] dn) news g) (hdl : (dl, LCg.lst ys) ∈ news)
    (hne : @Ne Nat dk dl) (hI : IntsAre ys zs) (hlen : zs.length ≤ 63) (hd0 : 0 ≤ d) (hd1 : d ≤ 1000) {k : Int} {t : Tok} (hk0 : 1 ≤ k) (hk1 : k ≤ 64)
    (h : ∀ r t' dkt' h' tk, 0 ≤ r → r < k → Fr g0 L h' m → News g0 L h' (g (listOf #[.ref dl, .int (d + 1) dkt'] dn)) → Q (.int r t') { s with heap := h', toks := tk }) :
    wpAny (model Challenge.rw_np0058_01.row.prog w) ⟨none, dep, some (env :: outer), gd, un⟩ (PySem.call (.ref 298) [.ref dk, .int k t] []) Q E s := by
  obtain ⟨pre, post, rfl, hg, h1, h2⟩ := U.split
  have hmem : (dk, listOf #[.ref dl, .int d dkt] dn) ∈ pre ++ (dk, listOf #[.ref dl, .int d dkt] dn) :: post := List.mem_append_right _ (.head _)
  refine draw_call (dn := dn) (dt := dkt) B F X (fun p hp => ?_) T hf hke hdep hne hI hlen hd0 hd1 hk0 hk1 ?_
  · rcases List.mem_cons.mp hp with rfl | hp
    · exact N _ hmem
    · rw [List.mem_singleton.mp hp]; exact N _ hdl
  · intro r t' dkt' h' tk r0 r1 F' keep new
    refine h r t' dkt' h' tk r0 r1 F' ?_
    rw [hg]
    intro q hq
    rcases List.mem_append.mp hq with hq | hq
    · have n := N q (List.mem_append_left _ hq)
      exact ⟨keep _ _ (h1 q hq) n.1, n.2⟩
    · rcases List.mem_cons.mp hq with rfl | hq
      · exact ⟨new, (N _ hmem).2⟩
      · have n := N q (List.mem_append_right _ (.tail _ hq))
        exact ⟨keep _ _ (h2 q hq) n.1, n.2⟩
section
variable {prog : Program} {w : World} {A : Around} {E : Value → Shared → Prop} {s : Shared} {env : Env} {h₀ : Heap} {x : Str} {body : List Stmt} {Q : Flow → Shared → Prop}
set_option maxHeartbeats 3200000 in
theorem range_J {r : Addr} {a₀ b₀ : Int} {t₀ u₀ v₀ : Tok} {n : Nat} {m₀ : Str → Option Value} {news : List (Addr × Obj)} (J : Nat → (Str → Option Value) → List (Addr × Obj) → Prop)
    (hh : A.handled = none) (hr : IsRange s.heap r a₀ b₀ 1 t₀ u₀ v₀) (hsmall : Builtin.Range.small a₀ b₀ 1 = true) (hsz : Builtin.Range.rangeSize a₀ b₀ 1 = (n : Int)) (F : Fr h₀ env.locals s.heap m₀) (N : News h₀ env.locals s.heap news) (hj : J 0 m₀ news)
    (turn : ∀ i t m₁ nx h tk own, i < n → OwnOff own (nx.map (·.1)) → J i m₁ nx → Fr h₀ env.locals h (fun y => if y = x then some (.int (a₀ + (i : Int)) t) else m₁ y) → News h₀ env.locals h (nx ++ own) →
      wpAny (model prog w) A (execs body env) (InvPostG h₀ env.locals (J (i + 1)) own { s with heap := h, toks := tk } Q) E { s with heap := h, toks := tk })
    (done : ∀ m₁ nx h tk, J n m₁ nx → Fr h₀ env.locals h m₁ → News h₀ env.locals h nx → Q .next { s with heap := h, toks := tk }) :
    wpAny (model prog w) A (pyIter (.ref r)) (fun it s₂ => LoopAtV prog w A h₀ env x body Q E it s₂) E s := by
  refine wpAny_pyIter_range hr hsmall ?_
  have W : Walks prog w A s.heap.objs.size [s.heap.objs.size] [s.heap.objs.size] n (fun i v => i < n ∧ ∃ t, v = .int (a₀ + i * 1) t)
      (fun i h => IsRangeIter h s.heap.objs.size (a₀ + (i : Nat) * 1) ((n : Int) - (i : Nat)) 1) := (Walks.range hh _ a₀ 1 n).bound
  refine kdr_loop J W (fun _ h => h) (fun _ h => h) ?_ ?_ ?_ ?_ (by show IsRangeIter _ _ _ _ _; rw [hsz]; simpa using Heap.get?_push_size _ rfl) (F.push _) (fun p hp => ⟨Heap.get?_push_of_some _ (N p hp).1, (N p hp).2⟩) hj ?_ done
  · intro i h hi b hb
    rw [List.mem_singleton.mp hb]
    exact ⟨_, hi⟩
  · intro hm
    exact absurd F.ns.lt ((List.mem_singleton.mp hm) ▸ Nat.lt_irrefl _)
  · intro b hb
    rw [List.mem_singleton.mp hb]
    exact next_is_new F
  · intro p hp hI
    exact absurd (Heap.lt_size (N p hp).1) ((List.mem_singleton.mp hI) ▸ Nat.lt_irrefl _)
  · rintro i v m₁ nx h tk own hlt ⟨_, t, rfl⟩ hoff hp' F₁ N₁
    have e1 : a₀ + (i : Int) * 1 = a₀ + (i : Int) := by omega
    rw [e1] at F₁
    exact turn i t m₁ nx h tk own hlt hoff hp' F₁ N₁
end
theorem fr_known {h₀ h : Heap} {L : Addr} {m : Str → Option Value} (kl : List (Str × Value)) (hk : ∀ p ∈ kl, m p.1 = some p.2) (F : Fr h₀ L h m) : Fr h₀ L h (kstB m kl) := by
  have e : kstB m kl = m := by funext z; exact kstB_eq hk (fun _ => rfl)
  rw [e]; exact F


def lastS : List Stmt → Stmt
  | [a] => a
  | _ :: r => lastS r
  | [] => .Pass ⟨0, 0, 0, 0⟩
def nthS : List Stmt → Nat → Stmt
  | a :: _, 0 => a
  | _ :: r, n + 1 => nthS r n
  | [], _ => .Pass ⟨0, 0, 0, 0⟩
def fnB : Stmt → List Stmt
  | .FunctionDef _ _ b _ _ _ _ _ _ _ => b
  | _ => []
def fnS : Stmt → Scope
  | .FunctionDef _ _ _ _ _ _ s _ _ _ => s
  | _ => default
def forB : Stmt → List Stmt
  | .For _ _ b _ _ => b
  | _ => []
def ifB : Stmt → List Stmt
  | .If _ b _ _ => b
  | _ => []
def ifO : Stmt → List Stmt
  | .If _ _ o _ => o
  | _ => []
def lawDef : Stmt := lastS PySem.Challenge.pw_np0058_01.main.body
def lawS : Scope := fnS lawDef
def lapB : List Stmt := forB (nthS (fnB lawDef) 4)
def ch0 : Stmt := nthS lapB 1
def ch2 : Stmt := nthS (ifO ch0) 0
def ch3 : Stmt := nthS (ifO ch2) 0
def ch4 : Stmt := nthS (ifO ch3) 0
def ch5 : Stmt := nthS (ifO ch4) 0
structure Co where
  (k0 k1 k2 k3 k4 k5 k6 k7 k8 k9 k10 k11 k12 k13 k14 k15 t0 t1 t2 t4 t5 t6 t7 t13 j0 j1 j2 j3 j4 j5 j6 u1 u2 u3 u4 u5 u6 : Tok)
  (ch dws dw xw dt xt dk dl : Nat)
  (L : Nat)
  (ow : Obj)
  (dn : Nat)
  (ys : List Value)
  (zs : List Int)

structure V where
  (d : Int)
  (dkt : Tok)
  (b st p h : Int)
  (bt stt pt ht : Tok)
  (we wl : Addr)
  (evs lvs : List Value)
  (en ln : Nat)
  (es ls : List Dat)
  (sh : Addr)
  (shn : Nat)
  (x1 x2 x3 x4 : Tok)
  (le ll : Addr)
  (les lls : List Value)
  (lem llm : Nat)
  (lv : Addr)
  (lvv : List Value)
  (lvn : Nat)
  (ns : List Int)
  (oL oB : Obj)
  (ps : Array Value)
  (tl : List (Addr × Obj))

def led (w : World) (C : Co) (v : V) : List (Addr × Obj) := ((C.dw, dictOf (winE w.params C.k0 C.k1 C.k2 C.k3 C.k4 C.k5 C.k6 C.k7 C.k8 C.k9 C.k10 C.k11 C.k12 C.k13 C.k14 C.k15 C.t0 C.t1 C.t2 C.ch C.t4 C.t5 C.t6 C.t7 C.t13 v.b v.bt v.st v.stt v.p v.pt v.h v.ht false v.we v.wl) 16) :: (C.xw, instObj 93 C.dw) :: (C.dt, dictOf (treeE w.params C.j0 C.j1 C.j2 C.j3 C.j4 C.j5 C.j6 C.dws C.u1 C.u2 C.u3 C.u4 C.u5 C.u6) 7) :: (C.xt, instObj 164 C.dt) :: (C.dws, C.ow) :: (C.dk, listOf #[Value.ref C.dl, Value.int v.d v.dkt] C.dn) :: (C.L + 1 + 1, v.oL) :: (C.L + 1, v.oB) :: ((305 : Nat), tabObj v.ps) :: v.tl)
structure Co.ok (w : World) (C : Co) : Prop where
  lo : (C.dws == sysModules) = false
  how : Obj.IsDictOf (intKind Challenge.rw_np0058_01.row.prog w) C.ow [(1, .ref C.xw)]
  n1 : @Ne Nat C.dw C.xw
  n2 : @Ne Nat C.dw C.dt
  n3 : @Ne Nat C.dw C.xt
  n4 : @Ne Nat C.dw C.dws
  n5 : @Ne Nat C.dw C.dk
  m1 : @Ne Nat C.dk C.xw
  m2 : @Ne Nat C.dk C.dt
  m3 : @Ne Nat C.dk C.xt
  m4 : @Ne Nat C.dk C.dws
  m5 : @Ne Nat C.dk C.dl
  o0 : 305 < C.L
  o1 : C.L + 1 + 1 < C.dw
  o2 : C.L + 1 + 1 < C.xw
  o3 : C.L + 1 + 1 < C.dt
  o4 : C.L + 1 + 1 < C.xt
  o5 : C.L + 1 + 1 < C.dws
  o6 : C.L + 1 + 1 < C.dk
  hI : IntsAre C.ys C.zs
  hz : C.zs.length ≤ 63
theorem kst_eqm {m : Str → Option Value} {kl : List (Str × Value)} (hk : ∀ p ∈ kl, m p.1 = some p.2) : kstB m kl = m := by
  funext z
  exact kstB_eq hk (fun _ => rfl)
def adr5 (C : Co) : List Addr := [C.dw, C.dk, C.L + 1 + 1, C.L + 1, 305]
def adr9 (C : Co) : List Addr := [C.dw, C.xw, C.dt, C.xt, C.dws, C.dk, C.L + 1 + 1, C.L + 1, 305]
def Fr9 (C : Co) (own : List (Addr × Obj)) (q : Addr) : Prop := @Ne Nat C.dw q ∧ @Ne Nat C.dk q ∧ @Ne Nat (C.L + 1 + 1) q ∧ @Ne Nat (C.L + 1) q ∧ @Ne Nat 305 q ∧ ∀ z ∈ own, z.1 ≠ q
theorem off_new {C : Co} {own tl : List (Addr × Obj)} : ∀ {add : List (Addr × Obj)}, (∀ q ∈ add, Fr9 C own q.1) → OwnOff tl (adr5 C ++ own.map (·.1)) → OwnOff (add ++ tl) (adr5 C ++ own.map (·.1)) := by
  intro add h k p hp b hb
  rcases List.mem_append.mp hp with hp | hp
  · obtain ⟨h1, h2, h3, h4, h5, h6⟩ := h p hp
    rcases List.mem_append.mp hb with hb | hb
    · simp only [adr5, List.mem_cons, List.not_mem_nil, or_false] at hb
      rcases hb with rfl | rfl | rfl | rfl | rfl
      · exact h1.symm
      · exact h2.symm
      · exact h3.symm
      · exact h4.symm
      · exact h5.symm
    · obtain ⟨z, hz, rfl⟩ := List.mem_map.mp hb
      exact (h6 z hz).symm
  · exact k p hp b hb
theorem off_add {add tlX : List (Addr × Obj)} {dw dk a b c : Addr} {o1 o2 o3 o4 : Obj} (hX : OwnOff tlX [dw, dk, a, b, c]) (fr : ∀ q ∈ add, @Ne Nat dw q.1 ∧ ∀ z ∈ (dk, o1) :: (a, o2) :: (b, o3) :: (c, o4) :: tlX, z.1 ≠ q.1) : OwnOff (add ++ tlX) [dw, dk, a, b, c] := by
  intro p hp z hz
  rcases List.mem_append.mp hp with hp | hp
  · obtain ⟨h1, h2⟩ := fr p hp
    simp only [List.mem_cons, List.not_mem_nil, or_false] at hz
    rcases hz with rfl | rfl | rfl | rfl | rfl
    · exact h1.symm
    · exact (h2 _ (.head _)).symm
    · exact (h2 _ (.tail _ (.head _))).symm
    · exact (h2 _ (.tail _ (.tail _ (.head _)))).symm
    · exact (h2 _ (.tail _ (.tail _ (.tail _ (.head _))))).symm
  · exact hX p hp z hz
theorem fr9_add {add tlX own : List (Addr × Obj)} {C : Co} {o1 o2 o3 o4 : Obj} (hO : ∀ p ∈ own, p ∈ tlX) (fr : ∀ q ∈ add, @Ne Nat C.dw q.1 ∧ ∀ z ∈ (C.dk, o1) :: (C.L + 1 + 1, o2) :: (C.L + 1, o3) :: ((305 : Nat), o4) :: tlX, z.1 ≠ q.1) : ∀ q ∈ add, Fr9 C own q.1 := fun p hp => by
  obtain ⟨h1, h2⟩ := fr p hp
  exact ⟨h1, h2 _ (.head _), h2 _ (.tail _ (.head _)), h2 _ (.tail _ (.tail _ (.head _))), h2 _ (.tail _ (.tail _ (.tail _ (.head _)))), fun z hz => h2 z (.tail _ (.tail _ (.tail _ (.tail _ (hO z hz)))))⟩
theorem sub_add {add tlX : List (Addr × Obj)} {f1 f2 f3 f4 f5 k1 k2 k3 k4 : Addr × Obj} : ∀ p ∈ [f1, f2, f3, f4, f5, k1, k2, k3, k4] ++ (add ++ tlX), p ∈ f1 :: f2 :: f3 :: f4 :: f5 :: (add ++ (k1 :: k2 :: k3 :: k4 :: tlX)) := by
  intro p hp
  simp only [List.mem_cons, List.mem_append, List.not_mem_nil, or_false] at hp ⊢
  rcases hp with (h | h | h | h | h | h | h | h | h) | h | h <;> simp [h]
theorem fr9_app {a b : List (Addr × Obj)} {C : Co} {own : List (Addr × Obj)} (h : ∀ q ∈ a, Fr9 C own q.1) (k : ∀ q ∈ b, Fr9 C own q.1) : ∀ q ∈ a ++ b, Fr9 C own q.1 := fun q hq => (List.mem_append.mp hq).elim (h q) (k q)
theorem rowD_inj {a b c d a' b' c' d' : Int} (h : rowD a b c d = rowD a' b' c' d') : a = a' ∧ b = b' ∧ c = c' ∧ d = d' := by
  simp only [rowD, Dat.tuple.injEq, List.cons.injEq, Dat.int.injEq, and_true] at h
  exact h
theorem rowIn_filter {ns : List Int} {ds : List Dat} {p : Dat → Bool} (h : ∀ d ∈ ds, RowIn ns d) : ∀ d ∈ ds.filter p, RowIn ns d := fun d hd => h d (List.mem_filter.mp hd).1
theorem rowIn_snoc {ns : List Int} {ds : List Dat} {b s p h : Int} (k : ∀ d ∈ ds, RowIn ns d) (hb : b ∈ ns) : ∀ d ∈ ds ++ [rowD b s p h], RowIn ns d := fun d hd => by
  rcases List.mem_append.mp hd with hd | hd
  · exact k d hd
  · rw [List.mem_singleton.mp hd]; exact ⟨_, _, _, _, rfl, hb⟩
theorem rowIn_cons {ns : List Int} {ds : List Dat} {b s p h : Int} (k : ∀ d ∈ ds, RowIn ns d) (hb : b ∈ ns) : ∀ d ∈ rowD b s p h :: ds, RowIn ns d := fun d hd => by
  rcases List.mem_cons.mp hd with rfl | hd
  · exact ⟨_, _, _, _, rfl, hb⟩
  · exact k d hd
theorem sub_lam {add tlX : List (Addr × Obj)} {f f1 f2 f3 f4 f5 k1 k2 k3 k4 : Addr × Obj} : ∀ p ∈ [f1, f2, f3, f4, f5, k1, k2, k3, k4] ++ (f :: (add ++ tlX)), p ∈ f :: (add ++ (f1 :: f2 :: f3 :: f4 :: f5 :: k1 :: k2 :: k3 :: k4 :: tlX)) := by
  intro p hp
  simp only [List.mem_cons, List.mem_append, List.not_mem_nil, or_false] at hp ⊢
  rcases hp with (h | h | h | h | h | h | h | h | h) | h | h | h <;> simp [h]
theorem off_lam {add tlX : List (Addr × Obj)} {dw xw dt xt dws dk a b c f : Addr} {f1 f2 f3 f4 f5 o1 o2 o3 o4 o : Obj} (hX : OwnOff tlX [dw, dk, a, b, c]) (fr : ∀ q ∈ add, ∀ z ∈ (dw, f1) :: (xw, f2) :: (dt, f3) :: (xt, f4) :: (dws, f5) :: (dk, o1) :: (a, o2) :: (b, o3) :: (c, o4) :: tlX, z.1 ≠ q.1)
    (ff : ∀ z ∈ (dw, f1) :: (xw, f2) :: (dt, f3) :: (xt, f4) :: (dws, f5) :: (dk, o1) :: (a, o2) :: (b, o3) :: (c, o4) :: tlX, z.1 ≠ f) : OwnOff ((f, o) :: (add ++ tlX)) [dw, dk, a, b, c] := by
  have key : ∀ q : Addr, (∀ z ∈ (dw, f1) :: (xw, f2) :: (dt, f3) :: (xt, f4) :: (dws, f5) :: (dk, o1) :: (a, o2) :: (b, o3) :: (c, o4) :: tlX, z.1 ≠ q) → ∀ z ∈ [dw, dk, a, b, c], q ≠ z := by
    intro q h z hz
    simp only [List.mem_cons, List.not_mem_nil, or_false] at hz
    rcases hz with rfl | rfl | rfl | rfl | rfl
    · exact (h (z, f1) (by simp)).symm
    · exact (h (z, o1) (by simp)).symm
    · exact (h (z, o2) (by simp)).symm
    · exact (h (z, o3) (by simp)).symm
    · exact (h (z, o4) (by simp)).symm
  intro p hp
  rcases List.mem_cons.mp hp with rfl | hp
  · exact key _ ff
  · rcases List.mem_append.mp hp with hp | hp
    · exact key _ (fr p hp)
    · exact hX p hp
theorem fr9_lam {add tlX own : List (Addr × Obj)} {C : Co} {f1 f2 f3 f4 f5 o1 o2 o3 o4 : Obj} (hO : ∀ p ∈ own, p ∈ tlX) (fr : ∀ q ∈ add, ∀ z ∈ (C.dw, f1) :: (C.xw, f2) :: (C.dt, f3) :: (C.xt, f4) :: (C.dws, f5) :: (C.dk, o1) :: (C.L + 1 + 1, o2) :: (C.L + 1, o3) :: ((305 : Nat), o4) :: tlX, z.1 ≠ q.1) : ∀ q ∈ add, Fr9 C own q.1 := fun p hp => by
  have h := fr p hp
  exact ⟨h (C.dw, f1) (by simp), h (C.dk, o1) (by simp), h (C.L + 1 + 1, o2) (by simp), h (C.L + 1, o3) (by simp), h (305, o4) (by simp), fun z hz => h z (by simp [hO z hz])⟩
theorem snoc_inj {a b : List Dat} {x y : Dat} (h : a ++ [x] = b ++ [y]) : a = b ∧ x = y := by
  have := List.append_inj' h rfl
  exact ⟨this.1, by simpa using this.2⟩
theorem news_tail {h₀ h : Heap} {L : Addr} {q : Addr × Obj} {r : List (Addr × Obj)} {G : Prop} (N : News h₀ L h (q :: r)) (k : News h₀ L h r → G) : G := k fun p hp => N p (.tail _ hp)
def datNe (b : Int) : Dat → Bool
  | .int a => decide (a ≠ b)
  | _ => true
theorem datNe_filter {b : Int} : ∀ {ns : List Int}, (ns.map Dat.int).filter (datNe b) = (ns.filter (fun a => decide (a ≠ b))).map Dat.int
  | [] => rfl
  | a :: r => by
    rw [List.map_cons, List.filter_cons, List.filter_cons, datNe_filter (ns := r)]
    by_cases h : a = b <;> simp [datNe, h]
theorem filter_len {b : Int} : ∀ {ns : List Int}, ns.Nodup → ns.length ≤ (ns.filter (fun a => decide (a ≠ b))).length + 1
  | [], _ => by simp
  | a :: r, h => by
    rw [List.nodup_cons] at h
    by_cases e : a = b
    · have : r.filter (fun a => decide (a ≠ b)) = r := List.filter_eq_self.mpr fun x hx => by
        simp only [ne_eq, decide_eq_true_eq]
        intro q
        exact h.1 (e ▸ q ▸ hx)
      rw [List.filter_cons, if_neg (by simp [e]), this]
      simp
    · rw [List.filter_cons, if_pos (by simp [e])]
      have := filter_len (b := b) h.2
      simp only [List.length_cons]
      omega
theorem sub_mv {tlX : List (Addr × Obj)} {f f1 f2 f3 f4 f5 k1 k2 k3 k4 : Addr × Obj} : ∀ p ∈ [f1, f2, f3, f4, f5, k1, k2, k3, k4] ++ (f :: tlX), p ∈ f :: f1 :: f2 :: f3 :: f4 :: f5 :: k1 :: k2 :: k3 :: k4 :: tlX := by
  intro p hp
  simp only [List.mem_cons, List.mem_append, List.not_mem_nil, or_false] at hp ⊢
  rcases hp with (h | h | h | h | h | h | h | h | h) | h | h <;> simp [h]
theorem own_cons5 {l : List (Addr × Obj)} {q : Addr × Obj} {a b c d e : Addr} (h1 : @Ne Nat a q.1) (h2 : @Ne Nat b q.1) (h3 : @Ne Nat c q.1) (h4 : @Ne Nat d q.1) (h5 : @Ne Nat e q.1) (k : OwnOff l [a, b, c, d, e]) : OwnOff (q :: l) [a, b, c, d, e] := by
  intro p hp z hz
  rcases List.mem_cons.mp hp with rfl | hp
  · simp only [List.mem_cons, List.not_mem_nil, or_false] at hz
    rcases hz with rfl | rfl | rfl | rfl | rfl
    · exact h1.symm
    · exact h2.symm
    · exact h3.symm
    · exact h4.symm
    · exact h5.symm
  · exact k p hp z hz
theorem rowIn_kill {ns ns' : List Int} {ds : List Dat} {nb : Int} (hN : ns.filter (fun a => decide (a ≠ nb)) = ns') (h : ∀ d ∈ ds, RowIn ns d) : ∀ d ∈ ds.filter (rowNe nb), RowIn ns' d := fun d hd => by
  obtain ⟨h1, h2⟩ := List.mem_filter.mp hd
  obtain ⟨b, s, p, q, rfl, hb⟩ := h d h1
  refine ⟨b, s, p, q, rfl, ?_⟩
  rw [← hN]
  refine List.mem_filter.mpr ⟨hb, ?_⟩
  simpa [rowNe, rowIs] using h2
theorem live_get {lvv : List Value} {ns : List Int} {k : Nat} (h : DatAll [] lvv (ns.map Dat.int)) (hk : k < ns.length) : ∃ nb nt, lvv[k]? = some (.int nb nt) ∧ nb ∈ ns := by
  obtain ⟨v, hv, hd⟩ := h.get (k := k) (by rw [List.length_map]; exact hk)
  rw [List.getElem_map] at hd
  cases hd
  exact ⟨_, _, hv, List.getElem_mem hk⟩
def known (C : Co) (v : V) : List (Str × Value) := [(Str.ofString "deck", .ref C.dk), (Str.ofString "tree", .ref C.xt), (Str.ofString "shown_window", .ref C.xw), (Str.ofString "shown", .ref v.sh), (Str.ofString "earlier", .ref v.le), (Str.ofString "later", .ref v.ll)]
structure V.ok (C : Co) (own : List (Addr × Obj)) (v : V) (i : Nat) (m : Str → Option Value) : Prop where
  off : OwnOff v.tl (adr5 C ++ own.map (·.1))
  d0 : 0 ≤ v.d
  d1 : v.d ≤ 4 + 3 * (i : Int)
  hdl : (C.dl, LCg.lst C.ys) ∈ v.tl
  hE : (v.we, listOf v.evs.toArray v.en) ∈ v.tl
  hEs : DatAll v.tl v.evs v.es
  hEl : v.evs.length ≤ i
  hL : (v.wl, listOf v.lvs.toArray v.ln) ∈ v.tl
  hLs : DatAll v.tl v.lvs v.ls
  hLl : v.lvs.length ≤ i
  hle : (v.le, listOf v.les.toArray v.lem) ∈ v.tl
  hles : DatAll v.tl v.les v.es
  hll : (v.ll, listOf v.lls.toArray v.llm) ∈ v.tl
  hlls : DatAll v.tl v.lls v.ls
  hsh : (v.sh, tupObj [Value.int v.b v.x1, Value.int v.st v.x2, Value.int v.p v.x3, Value.int v.h v.x4] v.shn) ∈ v.tl
  hlv : (v.lv, listOf v.lvv.toArray v.lvn) ∈ v.tl
  hlvD : DatAll [] v.lvv (v.ns.map Dat.int)
  n2 : 2 ≤ v.ns.length
  n5 : v.ns.length ≤ 5
  nd : v.ns.Nodup
  n0 : ∀ n ∈ v.ns, n ≠ 0
  hb : v.b ∈ v.ns
  he : ∀ d ∈ v.es, RowIn v.ns d
  hl : ∀ d ∈ v.ls, RowIn v.ns d
  hoL : v.oL.data = .cell (some (.ref v.lv))
  hoB : ∃ x, v.oB.data = .cell x
  tab : TabOk ("law" ++ ".<locals>." ++ "<lambda>") v.ps v.tl
  km : ∀ q ∈ known C v, m q.1 = some q.2

theorem check_walk {w : World} {base g0 : Heap} {mg mb : Str → Option Value} {mean : ExcName → Option Value} {loose : List Str} {C : Co} {v : V} {own : List (Addr × Obj)} {i : Nat} {m : Str → Option Value} {s : Shared} {E : Value → Shared → Prop} {Q : Flow → Shared → Prop} {fa : Addr} {S : Scope} {bd : Stmt}
    (hS : S = lawS) (hbd : bd = nthS lapB 2) (B : Below callerA base [] g0) (F : Fr g0 C.L s.heap m) (X : (Mine.hd.heap_1 w.params).In g0) (T : Top topProg loose mean mg mb g0) (CH : CodeHd g0 307 305)
    (N : News g0 C.L s.heap (led w C v ++ own)) (hC : C.ok w) (hv : v.ok C own i m) (hown : OwnOff own (adr9 C)) (hi : i ≤ 30)
    
    (hQ : ∀ h' tk, Fr g0 C.L h' m → News g0 C.L h' (led w C v ++ own) → Q .next { s with heap := h', toks := tk }) :
    wpAny (model Challenge.rw_np0058_01.row.prog w) (callerA.deeper (envOfC "law" S C.L fa (.ref 307))) (exec bd (envOfC "law" S C.L fa (.ref 307))) Q E s := by
  have hPR : PySem.Challenge.rw_np0058_01 = PySem.Challenge.rw_np0058_01 ∧ Mine.hd.heap_1 = Mine.hd.heap_1 := by
    k_fill
    exact ⟨rfl, rfl⟩
  have hKd := kdMark
  conv at hS => rhs; whnf
  conv at hbd => rhs; whnf
  subst hS hbd
  obtain ⟨k0, k1, k2, k3, k4, k5, k6, k7, k8, k9, k10, k11, k12, k13, k14, k15, t0, t1, t2, t4, t5, t6, t7, t13, j0, j1, j2, j3, j4, j5, j6, u1, u2, u3, u4, u5, u6, ch, dws, dw, xw, dt, xt, dk, dl, L, ow, dn, ys, zs⟩ := C
  obtain ⟨d, dkt, b, st, p, h, bt, stt, pt, ht, we, wl, evs, lvs, en, ln, es, ls, sh, shn, x1, x2, x3, x4, le, ll, les, lls, lem, llm, lv, lvv, lvn, ns, oL, oB, ps, tl⟩ := v
  obtain ⟨off, d0, d1, hdl, hE, hEs, hEl, hL, hLs, hLl, hle, hles, hll, hlls, hsh, hlv, hlvD, n2, n5, nd, n0, hb, he, hl, hoL, hoBx, tab, km⟩ := hv
  obtain ⟨lo, how, nn1, nn2, nn3, nn4, nn5, mm1, mm2, mm3, mm4, mm5, o0, o1, o2, o3, o4, o5, o6, hI, hz⟩ := hC
  dsimp only at *
  have F0 := fr_known _ km F
  have eKm := kst_eqm km
  dsimp only [known, kstB] at F0 eKm
  unfold led at N
  dsimp only [List.cons_append] at N
  refine re_ledA (adr := [dw, dk, L + 1 + 1, L + 1, 305]) [(dw, _), (xw, _), (dt, _), (xt, _), (dws, _), (dk, _), (L + 1 + 1, _), (L + 1, _), (305, _)] (tl ++ own) N (fun _ h => h) (off_app off hown) ?_
  intro tlX hsX hsX' hOffX NX
  clear N F
  dsimp only [List.cons_append, List.nil_append] at NX
  have hT : ∀ p ∈ tl, p ∈ tlX := fun p hp => hsX p (List.mem_append_left _ hp)
  have hO : ∀ p ∈ own, p ∈ tlX := fun p hp => hsX p (List.mem_append_right _ hp)
  have gdl := hT _ hdl
  have gE := hT _ hE
  have gL := hT _ hL
  have gle := hT _ hle
  have gll := hT _ hll
  have gsh := hT _ hsh
  have glv := hT _ hlv
  obtain ⟨bx, hoB0⟩ := hoBx
  have ql1 := hEs.length
  have ql2 := hles.length
  have ql3 := hLs.length
  have ql4 := hlls.length
  (repeat' (first | (k_unfold; (try dsimp only)) | (walk_at "MINE stop"; walk1) | (dsimp only; walk_at "MINE stop"; walk1) | (dsimp only; k_unfold; (try dsimp only))))
  refine kup_newTuple (by k_asm) (by k_asm) ?_ (Nat.le_of_ble_eq_true rfl)
  intro tq h2 F2 N2 lt2
  (try k_lt lt2)
  (repeat' (first | (k_unfold; (try dsimp only)) | (walk_at "MINE stop"; walk1) | (dsimp only; walk_at "MINE stop"; walk1) | (dsimp only; k_unfold; (try dsimp only))))
  refine ne_dat (by k_asm) (row_dat (by walk_at "MINE mem")) (row_dat (by walk_at "MINE mem")) (by rfl) (by rfl) (Nat.le_of_ble_eq_true rfl) rfl ?_
  (repeat' (first | (k_unfold; (try dsimp only)) | (walk_at "MINE stop"; walk1) | (dsimp only; walk_at "MINE stop"; walk1) | (dsimp only; k_unfold; (try dsimp only))))
  refine kup_listOf (zs := evs) (by k_asm) (by k_asm) (by walk_at "MINE mem") (by simp) ?_ (by simp only [List.toList_toArray, PySem.sizeLine_eq]; omega)
  intro D1 cD1 hD1 FD1 ND1 ltD1
  (try k_lt ltD1)
  (repeat' (first | (k_unfold; (try dsimp only)) | (walk_at "MINE stop"; walk1) | (dsimp only; walk_at "MINE stop"; walk1) | (dsimp only; k_unfold; (try dsimp only))))
  refine ne_rows (by k_asm) (by walk_at "MINE mem") hEs (fun z hz => (by have := hT z hz; repeat (first | assumption | refine List.Mem.tail _ ?_))) (by walk_at "MINE mem") hles (fun z hz => (by have := hT z hz; repeat (first | assumption | refine List.Mem.tail _ ?_))) (fun d hd => (he d hd).isRow) (fun d hd => (he d hd).isRow) (Nat.le_of_ble_eq_true rfl) rfl ?_
  (repeat' (first | (k_unfold; (try dsimp only)) | (walk_at "MINE stop"; walk1) | (dsimp only; walk_at "MINE stop"; walk1) | (dsimp only; k_unfold; (try dsimp only))))
  refine kup_listOf (zs := lvs) (by k_asm) (by k_asm) (by walk_at "MINE mem") (by simp) ?_ (by simp only [List.toList_toArray, PySem.sizeLine_eq]; omega)
  intro D2 cD2 hD2 FD2 ND2 ltD2
  (try k_lt ltD2)
  (repeat' (first | (k_unfold; (try dsimp only)) | (walk_at "MINE stop"; walk1) | (dsimp only; walk_at "MINE stop"; walk1) | (dsimp only; k_unfold; (try dsimp only))))
  refine ne_rows (by k_asm) (by walk_at "MINE mem") hLs (fun z hz => (by have := hT z hz; repeat (first | assumption | refine List.Mem.tail _ ?_))) (by walk_at "MINE mem") hlls (fun z hz => (by have := hT z hz; repeat (first | assumption | refine List.Mem.tail _ ?_))) (fun d hd => (hl d hd).isRow) (fun d hd => (hl d hd).isRow) (Nat.le_of_ble_eq_true rfl) rfl ?_
  (repeat' (first | (k_unfold; (try dsimp only)) | (walk_at "MINE stop"; walk1) | (dsimp only; walk_at "MINE stop"; walk1) | (dsimp only; k_unfold; (try dsimp only))))
  rename Fr g0 L _ _ => kF
  rename News g0 L _ _ => kN
  refine hQ _ _ (by rw [← eKm]; exact kF) ?_
  intro p hp
  refine kN p ?_
  revert p
  unfold led
  dsimp only [List.cons_append]
  iterate 9 (refine List.forall_mem_cons.mpr ⟨by walk_at "MINE mem", ?_⟩)
  exact fun z hz => (by have := hsX z hz; repeat (first | assumption | refine List.Mem.tail _ ?_))

theorem way0 {w : World} {base g0 : Heap} {mg mb : Str → Option Value} {mean : ExcName → Option Value} {loose : List Str} {C : Co} {v : V} {own : List (Addr × Obj)} {i : Nat} {m : Str → Option Value} {s : Shared} {E : Value → Shared → Prop} {Q : Flow → Shared → Prop} {fa : Addr} {S : Scope} {bd : List Stmt}
    (hS : S = lawS) (hbd : bd = ifB ch0) (B : Below callerA base [] g0) (F : Fr g0 C.L s.heap m) (X : (Mine.hd.heap_1 w.params).In g0) (T : Top topProg loose mean mg mb g0) (CH : CodeHd g0 307 305)
    (N : News g0 C.L s.heap (led w C v ++ own)) (hC : C.ok w) (hv : v.ok C own i m) (hown : OwnOff own (adr9 C)) (hi : i ≤ 30)
    {nb : Int} {nt : Tok} (hoB : v.oB.data = .cell (some (.int nb nt))) (hnb : nb ∈ v.ns)
    (hQ : ∀ v' m' h' tk, V.ok C own v' (i + 1) m' → Fr g0 C.L h' m' → News g0 C.L h' (led w C v' ++ own) → Q .next { s with heap := h', toks := tk }) :
    wpAny (model Challenge.rw_np0058_01.row.prog w) (callerA.deeper (envOfC "law" S C.L fa (.ref 307))) (execs bd (envOfC "law" S C.L fa (.ref 307))) Q E s := by
  have hPR : PySem.Challenge.rw_np0058_01 = PySem.Challenge.rw_np0058_01 ∧ Mine.hd.heap_1 = Mine.hd.heap_1 := by
    k_fill
    exact ⟨rfl, rfl⟩
  have hKd := kdMark
  conv at hS => rhs; whnf
  conv at hbd => rhs; whnf
  subst hS hbd
  obtain ⟨k0, k1, k2, k3, k4, k5, k6, k7, k8, k9, k10, k11, k12, k13, k14, k15, t0, t1, t2, t4, t5, t6, t7, t13, j0, j1, j2, j3, j4, j5, j6, u1, u2, u3, u4, u5, u6, ch, dws, dw, xw, dt, xt, dk, dl, L, ow, dn, ys, zs⟩ := C
  obtain ⟨d, dkt, b, st, p, h, bt, stt, pt, ht, we, wl, evs, lvs, en, ln, es, ls, sh, shn, x1, x2, x3, x4, le, ll, les, lls, lem, llm, lv, lvv, lvn, ns, oL, oB, ps, tl⟩ := v
  obtain ⟨off, d0, d1, hdl, hE, hEs, hEl, hL, hLs, hLl, hle, hles, hll, hlls, hsh, hlv, hlvD, n2, n5, nd, n0, hb, he, hl, hoL, hoBx, tab, km⟩ := hv
  obtain ⟨lo, how, nn1, nn2, nn3, nn4, nn5, mm1, mm2, mm3, mm4, mm5, o0, o1, o2, o3, o4, o5, o6, hI, hz⟩ := hC
  dsimp only at *
  have F0 := fr_known _ km F
  have eKm := kst_eqm km
  dsimp only [known, kstB] at F0 eKm
  unfold led at N
  dsimp only [List.cons_append] at N
  refine re_ledA (adr := [dw, dk, L + 1 + 1, L + 1, 305]) [(dw, _), (xw, _), (dt, _), (xt, _), (dws, _), (dk, _), (L + 1 + 1, _), (L + 1, _), (305, _)] (tl ++ own) N (fun _ h => h) (off_app off hown) ?_
  intro tlX hsX hsX' hOffX NX
  clear N F
  dsimp only [List.cons_append, List.nil_append] at NX
  have hT : ∀ p ∈ tl, p ∈ tlX := fun p hp => hsX p (List.mem_append_left _ hp)
  have hO : ∀ p ∈ own, p ∈ tlX := fun p hp => hsX p (List.mem_append_right _ hp)
  have gdl := hT _ hdl
  have gE := hT _ hE
  have gL := hT _ hL
  have gle := hT _ hle
  have gll := hT _ hll
  have gsh := hT _ hsh
  have glv := hT _ hlv
  obtain ⟨bx, hoB0⟩ := hoBx
  have ql1 := hEs.length
  have ql2 := hles.length
  have ql3 := hLs.length
  have ql4 := hlls.length
  (repeat' (first | (k_unfold; (try dsimp only)) | (walk_at "MINE stop"; walk1) | (dsimp only; walk_at "MINE stop"; walk1) | (dsimp only; k_unfold; (try dsimp only))))
  refine show_call (L9 := tl) (by k_asm) (by k_asm) (by k_asm) (by k_asm) rfl rfl (by k_asm) (fun p hp => (by have := hT p hp; repeat (first | assumption | refine List.Mem.tail _ ?_))) (fun z hz b hb => by rw [List.mem_singleton.mp hb]; exact off_cons nn5.symm (off_cons (Nat.ne_of_lt o1) (off_cons (Nat.ne_of_lt (by omega)) (off_cons (Nat.ne_of_lt (by omega)) (fun p hp => hOffX p hp dw (.head _))))) z hz) nn1 nn2 nn3 nn4 lo how (by walk_at "MINE mem") hEs (fun d hd => (he d hd).isRow) (by omega) (by walk_at "MINE mem") hLs (fun d hd => (hl d hd).isRow) (by omega) ?_ ?_
  · intro heq h1 tk1 F1 N1
    subst heq
    (repeat' (first | (k_unfold; (try dsimp only)) | (walk_at "MINE stop"; walk1) | (dsimp only; walk_at "MINE stop"; walk1) | (dsimp only; k_unfold; (try dsimp only))))
    · exact absurd rfl (by assumption)
    rename Fr g0 L _ _ => kF
    rename News g0 L _ _ => kN
    refine' hQ ⟨d, dkt, b, st, p, h, bt, stt, pt, ht, we, wl, evs, lvs, en, ln, es, ls, sh, shn, x1, x2, x3, x4, le, ll, les, lls, lem, llm, lv, lvv, lvn, ns, oL, oB, ps, tl⟩ _ _ _ ?ok kF ?nw
    case nw =>
      intro p hp
      refine kN p ?_
      revert p
      unfold led
      dsimp only [List.cons_append]
      iterate 9 (refine List.forall_mem_cons.mpr ⟨by walk_at "MINE mem", ?_⟩)
      exact fun z hz => (by have := hsX z hz; repeat (first | assumption | refine List.Mem.tail _ ?_))
    case ok =>
      refine' V.ok.mk ?foff ?fd0 ?fd1 ?fhdl ?fhE ?fhEs ?fhEl ?fhL ?fhLs ?fhLl ?fhle ?fhles ?fhll ?fhlls ?fhsh ?fhlv ?fhlvD ?fn2 ?fn5 ?fnd ?fn0 ?fhb ?fhe ?fhl ?fhoL ?fhoB ?ftab ?fkm
      case foff => (try dsimp only); exact off_new (add := []) (List.forall_mem_nil _) off
      case fd0 => (try dsimp only); omega
      case fd1 => (try dsimp only); omega
      case fhdl => (try dsimp only); exact (by have := hdl; repeat (first | assumption | refine List.Mem.tail _ ?_))
      case fhE => (try dsimp only); exact (by have := hE; repeat (first | assumption | refine List.Mem.tail _ ?_))
      case fhEs => (try dsimp only); exact DatAll.mono (fun p hp => (by have := hp; repeat (first | assumption | refine List.Mem.tail _ ?_))) hEs
      case fhEl => (try dsimp only); omega
      case fhL => (try dsimp only); exact (by have := hL; repeat (first | assumption | refine List.Mem.tail _ ?_))
      case fhLs => (try dsimp only); exact DatAll.mono (fun p hp => (by have := hp; repeat (first | assumption | refine List.Mem.tail _ ?_))) hLs
      case fhLl => (try dsimp only); omega
      case fhle => (try dsimp only); exact (by have := hle; repeat (first | assumption | refine List.Mem.tail _ ?_))
      case fhles => (try dsimp only); exact DatAll.mono (fun p hp => (by have := hp; repeat (first | assumption | refine List.Mem.tail _ ?_))) hles
      case fhll => (try dsimp only); exact (by have := hll; repeat (first | assumption | refine List.Mem.tail _ ?_))
      case fhlls => (try dsimp only); exact DatAll.mono (fun p hp => (by have := hp; repeat (first | assumption | refine List.Mem.tail _ ?_))) hlls
      case fhsh => (try dsimp only); exact (by have := hsh; repeat (first | assumption | refine List.Mem.tail _ ?_))
      case fhlv => (try dsimp only); exact (by have := hlv; repeat (first | assumption | refine List.Mem.tail _ ?_))
      case fhlvD => (try dsimp only); exact hlvD
      case fn2 => (try dsimp only); exact n2
      case fn5 => (try dsimp only); exact n5
      case fnd => (try dsimp only); exact nd
      case fn0 => (try dsimp only); exact n0
      case fhb => (try dsimp only); exact hb
      case fhe => (try dsimp only); exact he
      case fhl => (try dsimp only); exact hl
      case fhoL => (try dsimp only); exact hoL
      case fhoB => (try dsimp only); exact ⟨_, hoB0⟩
      case ftab => (try dsimp only); exact TabOk.mono tab (fun p hp => (by have := hp; repeat (first | assumption | refine List.Mem.tail _ ?_)))
      case fkm => (try dsimp only); unfold known; dsimp only; (iterate 6 (refine List.forall_mem_cons.mpr ⟨by rfl, ?_⟩)); exact List.forall_mem_nil _
  · intro hne h1 tk1 add nb2 ns2 np nh nbt nst npt nht we2 wl2 evs2 lvs2 en2 ln2 hrow F1 N1 fr1 mE2 hE2 lE2 mL2 hL2 lL2
    refine re_ledA (adr := [dw, dk, L + 1 + 1, L + 1, 305]) _ (add ++ tlX) N1 sub_add (off_add hOffX fr1) ?_
    intro tlY hsY hsY' hOffY NY
    clear hsY' N1
    dsimp only [List.cons_append, List.nil_append] at NY
    have hTY : ∀ p ∈ tl, p ∈ tlY := fun p hp => hsY p (List.mem_append_right _ (hT p hp))
    have hAY : ∀ p ∈ add, p ∈ tlY := fun p hp => hsY p (List.mem_append_left _ hp)
    have hOY : ∀ p ∈ own, p ∈ tlY := fun p hp => hsY p (List.mem_append_right _ (hO p hp))
    have yle := hTY _ hle
    have yll := hTY _ hll
    have ysh := hTY _ hsh
    (repeat' (first | (k_unfold; (try dsimp only)) | (walk_at "MINE stop"; walk1) | (dsimp only; walk_at "MINE stop"; walk1) | (dsimp only; k_unfold; (try dsimp only))))
    rotate_left 1
    · exact absurd (Eq.symm (by assumption)) hne
    ((refine LCt.ListComp_T (F₀ := by k_asm) (by with_unfolding_all rfl) (by decide) (by rfl) (by decide) (by rfl) ?_))
    (repeat' (first | (k_unfold; (try dsimp only)) | (walk_at "MINE stop"; walk1) | (dsimp only; walk_at "MINE stop"; walk1) | (dsimp only; k_unfold; (try dsimp only))))
    (refine LCt.CompSrcT.ledger (by rfl) (by k_asm) (by k_asm) (by walk_at "MINE mem") (by rw [List.size_toArray, PySem.sizeLine_eq]; omega) ?_)
    intro g9
    refine Mine.filt_rest (L9 := tl) (rowIs nb) hles (.inr ⟨_, by walk_at "MINE mem", rfl, _, rfl⟩) (by rfl) (by rfl) (by decide) ?_ ?_
    · intro v d I oI C oC D m₂ ys h tk E' hd hv hC hx F N off ne
      obtain ⟨r1, r2, r3, r4, rfl⟩ := (he d hd).isRow
      obtain ⟨ra, rn, x1, x2, x3, x4, rfl, rm⟩ := dat_row hv
      have rm' := hTY _ rm
      simp only [LCg.Off3] at off
      repeat' walk1
      exact TestEnd.intro rfl F N fun _ h => h
    · intro ag hag hagl
      intro Dg h9 tk F9 N9 off9
      (repeat' (first | (k_unfold; (try dsimp only)) | (walk_at "MINE stop"; walk1) | (dsimp only; walk_at "MINE stop"; walk1) | (dsimp only; k_unfold; (try dsimp only))))
      refine kup_newTuple (by k_asm) (by k_asm) ?_ (Nat.le_of_ble_eq_true rfl)
      intro tq htq Ftq Ntq lttq
      have rawtq := lttq
      (try k_lt lttq)
      (repeat' (first | (k_unfold; (try dsimp only)) | (walk_at "MINE stop"; walk1) | (dsimp only; walk_at "MINE stop"; walk1) | (dsimp only; k_unfold; (try dsimp only))))
      refine cat_rows (by k_asm) (by k_asm) (by walk_at "MINE mem") (by walk_at "MINE mem") (by simp only [List.length_cons, List.length_nil]; omega) ?_
      intro D3 hD3 FD3 ND3 ltD3
      have rawD3 := ltD3
      (try k_lt ltD3)
      (repeat' (first | (k_unfold; (try dsimp only)) | (walk_at "MINE stop"; walk1) | (dsimp only; walk_at "MINE stop"; walk1) | (dsimp only; k_unfold; (try dsimp only))))
      refine lawbut_call (by k_asm) (by k_asm) (by k_asm) (by k_asm) (by k_asm) rfl rfl (by k_room) (L9 := tl) (fun z hz => (by have := hTY z hz; repeat (first | assumption | refine List.Mem.tail _ ?_))) (by walk_at "MINE mem") (hles) (fun d hd => (he d hd).isRow) (by omega) ?_
      intro D4 ys4 h4 tk4 hD4 hl4 F4 N4 off4
      (repeat' (first | (k_unfold; (try dsimp only)) | (walk_at "MINE stop"; walk1) | (dsimp only; walk_at "MINE stop"; walk1) | (dsimp only; k_unfold; (try dsimp only))))
      refine cat_rows (by k_asm) (by k_asm) (by walk_at "MINE mem") (by walk_at "MINE mem") (by simp only [List.length_cons, List.length_nil]; omega) ?_
      intro D5 hD5 FD5 ND5 ltD5
      have rawD5 := ltD5
      (try k_lt ltD5)
      (repeat' (first | (k_unfold; (try dsimp only)) | (walk_at "MINE stop"; walk1) | (dsimp only; walk_at "MINE stop"; walk1) | (dsimp only; k_unfold; (try dsimp only))))
      refine lawbut_call (by k_asm) (by k_asm) (by k_asm) (by k_asm) (by k_asm) rfl rfl (by k_room) (L9 := tl) (fun z hz => (by have := hTY z hz; repeat (first | assumption | refine List.Mem.tail _ ?_))) (by walk_at "MINE mem") (DatAll.append hD4 (DatAll.one (row_dat hsh))) (rows_append (rows_filter (fun d hd => (he d hd).isRow)) rows_one) (by simp only [List.length_append, List.length_cons, List.length_nil]; omega) ?_
      intro D6 ys6 h6 tk6 hD6 hl6 F6 N6 off6
      (repeat' (first | (k_unfold; (try dsimp only)) | (walk_at "MINE stop"; walk1) | (dsimp only; walk_at "MINE stop"; walk1) | (dsimp only; k_unfold; (try dsimp only))))
      refine lawbut_call (by k_asm) (by k_asm) (by k_asm) (by k_asm) (by k_asm) rfl rfl (by k_room) (L9 := tl) (fun z hz => (by have := hTY z hz; repeat (first | assumption | refine List.Mem.tail _ ?_))) (by walk_at "MINE mem") (hlls) (fun d hd => (hl d hd).isRow) (by omega) ?_
      intro D7 ys7 h7 tk7 hD7 hl7 F7 N7 off7
      (repeat' (first | (k_unfold; (try dsimp only)) | (walk_at "MINE stop"; walk1) | (dsimp only; walk_at "MINE stop"; walk1) | (dsimp only; k_unfold; (try dsimp only))))
      refine kup_newTuple (by k_asm) (by k_asm) ?_ (Nat.le_of_ble_eq_true rfl)
      intro tg htg Ftg Ntg lttg
      have rawtg := lttg
      (try k_lt lttg)
      (repeat' (first | (k_unfold; (try dsimp only)) | (walk_at "MINE stop"; walk1) | (dsimp only; walk_at "MINE stop"; walk1) | (dsimp only; k_unfold; (try dsimp only))))
      rcases hA : es.filter (rowIs nb) with _ | ⟨rw9, rest⟩
      · rw [hA] at hag hrow
        cases hag
        obtain ⟨q1, q2, q3, q4⟩ := rowD_inj (hrow.trans rfl : rowD nb2 ns2 np nh = rowD nb 1 1 0)
        subst nb2 ns2 np nh
        refine item_at (by k_asm) (by walk_at "MINE mem") (by decide) (by decide) (by rfl) ?_
        (repeat' (first | (k_unfold; (try dsimp only)) | (walk_at "MINE stop"; walk1) | (dsimp only; walk_at "MINE stop"; walk1) | (dsimp only; k_unfold; (try dsimp only))))
        rename Fr g0 L _ _ => kF
        rename News g0 L _ _ => kN
        refine' hQ ⟨d, dkt, nb, 1, 1, 0, nbt, nst, npt, nht, we2, wl2, evs2, lvs2, en2, ln2, ((es.filter (rowNe b) ++ [rowD b st p h]).filter (rowNe nb)), (ls.filter (rowNe nb)), tq, 0, _, _, _, _, D6, D7, ys6, ys7, ys6.length, ys7.length, lv, lvv, lvn, ns, oL, oB, ps, (D6, LCg.lst ys6) :: (D7, LCg.lst ys7) :: (tq, tupObj [Value.int nb _, Value.int 1 _, Value.int 1 _, Value.int 0 _] 0) :: (add ++ tl)⟩ _ _ _ ?ok kF ?nw
        case nw =>
          intro p hp
          refine kN p ?_
          revert p
          unfold led
          dsimp only [List.cons_append]
          iterate 12 (refine List.forall_mem_cons.mpr ⟨by walk_at "MINE mem", ?_⟩)
          exact fun z hz => (by have := hsY z ((List.mem_append.mp hz).elim (fun h => (List.mem_append.mp h).elim (fun h => List.mem_append_left _ h) (fun h => List.mem_append_right _ (hT z h))) (fun h => List.mem_append_right _ (hO z h))); repeat (first | assumption | refine List.Mem.tail _ ?_))
        case ok =>
          refine' V.ok.mk ?foff ?fd0 ?fd1 ?fhdl ?fhE ?fhEs ?fhEl ?fhL ?fhLs ?fhLl ?fhle ?fhles ?fhll ?fhlls ?fhsh ?fhlv ?fhlvD ?fn2 ?fn5 ?fnd ?fn0 ?fhb ?fhe ?fhl ?fhoL ?fhoB ?ftab ?fkm
          case foff => (try dsimp only); exact off_new (add := [(D6, LCg.lst ys6), (D7, LCg.lst ys7), (tq, tupObj [Value.int nb _, Value.int 1 _, Value.int 1 _, Value.int 0 _] 0)] ++ add) (fr9_app (List.forall_mem_cons.mpr ⟨⟨off1_mem off6 (dw, _) (by walk_at "MINE mem"), off1_mem off6 (dk, _) (by walk_at "MINE mem"), off1_mem off6 (L + 1 + 1, _) (by walk_at "MINE mem"), off1_mem off6 (L + 1, _) (by walk_at "MINE mem"), off1_mem off6 (305, _) (by walk_at "MINE mem"), (fun z hz => off1_mem off6 z (by have := hOY z hz; repeat (first | assumption | refine List.Mem.tail _ ?_)))⟩, List.forall_mem_cons.mpr ⟨⟨off1_mem off7 (dw, _) (by walk_at "MINE mem"), off1_mem off7 (dk, _) (by walk_at "MINE mem"), off1_mem off7 (L + 1 + 1, _) (by walk_at "MINE mem"), off1_mem off7 (L + 1, _) (by walk_at "MINE mem"), off1_mem off7 (305, _) (by walk_at "MINE mem"), (fun z hz => off1_mem off7 z (by have := hOY z hz; repeat (first | assumption | refine List.Mem.tail _ ?_)))⟩, List.forall_mem_cons.mpr ⟨⟨Nat.ne_of_lt (rawtq (dw, _) (by walk_at "MINE mem")), Nat.ne_of_lt (rawtq (dk, _) (by walk_at "MINE mem")), Nat.ne_of_lt (rawtq (L + 1 + 1, _) (by walk_at "MINE mem")), Nat.ne_of_lt (rawtq (L + 1, _) (by walk_at "MINE mem")), Nat.ne_of_lt (rawtq (305, _) (by walk_at "MINE mem")), (fun z hz => Nat.ne_of_lt (rawtq z (by have := hOY z hz; repeat (first | assumption | refine List.Mem.tail _ ?_))))⟩, List.forall_mem_nil _⟩⟩⟩) (fr9_add hO fr1)) off
          case fd0 => (try dsimp only); omega
          case fd1 => (try dsimp only); omega
          case fhdl => (try dsimp only); exact (by have := List.mem_append_right add (hdl); repeat (first | assumption | refine List.Mem.tail _ ?_))
          case fhE => (try dsimp only); (have := List.mem_append_left tl mE2; repeat (first | assumption | refine List.Mem.tail _ ?_))
          case fhEs => (try dsimp only); exact DatAll.mono (fun p hp => (by repeat (first | assumption | refine List.Mem.tail _ ?_))) hE2
          case fhEl => (try dsimp only); omega
          case fhL => (try dsimp only); (have := List.mem_append_left tl mL2; repeat (first | assumption | refine List.Mem.tail _ ?_))
          case fhLs => (try dsimp only); exact DatAll.mono (fun p hp => (by repeat (first | assumption | refine List.Mem.tail _ ?_))) hL2
          case fhLl => (try dsimp only); omega
          case fhle => (try dsimp only); exact List.Mem.head _
          case fhles => (try dsimp only); exact DatAll.mono (fun p hp => (by have := List.mem_append_right add hp; repeat (first | assumption | refine List.Mem.tail _ ?_))) hD6
          case fhll => (try dsimp only); exact List.Mem.tail _ (List.Mem.head _)
          case fhlls => (try dsimp only); exact DatAll.mono (fun p hp => (by have := List.mem_append_right add hp; repeat (first | assumption | refine List.Mem.tail _ ?_))) hD7
          case fhsh => (try dsimp only); refine List.Mem.tail _ ?_; refine List.Mem.tail _ ?_; exact List.Mem.head _
          case fhlv => (try dsimp only); exact (by have := List.mem_append_right add (hlv); repeat (first | assumption | refine List.Mem.tail _ ?_))
          case fhlvD => (try dsimp only); exact hlvD
          case fn2 => (try dsimp only); exact n2
          case fn5 => (try dsimp only); exact n5
          case fnd => (try dsimp only); exact nd
          case fn0 => (try dsimp only); exact n0
          case fhb => (try dsimp only); exact hnb
          case fhe => (try dsimp only); exact rowIn_filter (rowIn_snoc (rowIn_filter he) hb)
          case fhl => (try dsimp only); exact rowIn_filter hl
          case fhoL => (try dsimp only); exact hoL
          case fhoB => (try dsimp only); exact ⟨_, hoB0⟩
          case ftab => (try dsimp only); exact TabOk.mono tab (fun p hp => (by have := List.mem_append_right add (hp); repeat (first | assumption | refine List.Mem.tail _ ?_)))
          case fkm => (try dsimp only); unfold known; dsimp only; (iterate 6 (refine List.forall_mem_cons.mpr ⟨by rfl, ?_⟩)); exact List.forall_mem_nil _
      · rw [hA] at hag hrow
        have hr' : RowIn ns rw9 := he rw9 (List.mem_filter.mp (by rw [hA]; exact .head _)).1
        obtain ⟨a1, a2, a3, a4, rfl, ha1⟩ := hr'
        obtain ⟨q1, q2, q3, q4⟩ := rowD_inj hrow
        subst nb2 ns2 np nh
        cases hag with
        | cons hv hr =>
        obtain ⟨ra, rn, y1, y2, y3, y4, rfl, rm⟩ := dat_row hv
        refine item_at (by k_asm) (by walk_at "MINE mem") (by decide) (by decide) (by rfl) ?_
        (repeat' (first | (k_unfold; (try dsimp only)) | (walk_at "MINE stop"; walk1) | (dsimp only; walk_at "MINE stop"; walk1) | (dsimp only; k_unfold; (try dsimp only))))
        rename Fr g0 L _ _ => kF
        rename News g0 L _ _ => kN
        refine' hQ ⟨d, dkt, a1, a2, a3, a4, nbt, nst, npt, nht, we2, wl2, evs2, lvs2, en2, ln2, ((es.filter (rowNe b) ++ [rowD b st p h]).filter (rowNe nb)), (ls.filter (rowNe nb)), ra, rn, _, _, _, _, D6, D7, ys6, ys7, ys6.length, ys7.length, lv, lvv, lvn, ns, oL, oB, ps, (D6, LCg.lst ys6) :: (D7, LCg.lst ys7) :: (tq, tupObj [Value.int nb _, Value.int 1 _, Value.int 1 _, Value.int 0 _] 0) :: (add ++ tl)⟩ _ _ _ ?ok kF ?nw
        case nw =>
          intro p hp
          refine kN p ?_
          revert p
          unfold led
          dsimp only [List.cons_append]
          iterate 12 (refine List.forall_mem_cons.mpr ⟨by walk_at "MINE mem", ?_⟩)
          exact fun z hz => (by have := hsY z ((List.mem_append.mp hz).elim (fun h => (List.mem_append.mp h).elim (fun h => List.mem_append_left _ h) (fun h => List.mem_append_right _ (hT z h))) (fun h => List.mem_append_right _ (hO z h))); repeat (first | assumption | refine List.Mem.tail _ ?_))
        case ok =>
          refine' V.ok.mk ?foff ?fd0 ?fd1 ?fhdl ?fhE ?fhEs ?fhEl ?fhL ?fhLs ?fhLl ?fhle ?fhles ?fhll ?fhlls ?fhsh ?fhlv ?fhlvD ?fn2 ?fn5 ?fnd ?fn0 ?fhb ?fhe ?fhl ?fhoL ?fhoB ?ftab ?fkm
          case foff => (try dsimp only); exact off_new (add := [(D6, LCg.lst ys6), (D7, LCg.lst ys7), (tq, tupObj [Value.int nb _, Value.int 1 _, Value.int 1 _, Value.int 0 _] 0)] ++ add) (fr9_app (List.forall_mem_cons.mpr ⟨⟨off1_mem off6 (dw, _) (by walk_at "MINE mem"), off1_mem off6 (dk, _) (by walk_at "MINE mem"), off1_mem off6 (L + 1 + 1, _) (by walk_at "MINE mem"), off1_mem off6 (L + 1, _) (by walk_at "MINE mem"), off1_mem off6 (305, _) (by walk_at "MINE mem"), (fun z hz => off1_mem off6 z (by have := hOY z hz; repeat (first | assumption | refine List.Mem.tail _ ?_)))⟩, List.forall_mem_cons.mpr ⟨⟨off1_mem off7 (dw, _) (by walk_at "MINE mem"), off1_mem off7 (dk, _) (by walk_at "MINE mem"), off1_mem off7 (L + 1 + 1, _) (by walk_at "MINE mem"), off1_mem off7 (L + 1, _) (by walk_at "MINE mem"), off1_mem off7 (305, _) (by walk_at "MINE mem"), (fun z hz => off1_mem off7 z (by have := hOY z hz; repeat (first | assumption | refine List.Mem.tail _ ?_)))⟩, List.forall_mem_cons.mpr ⟨⟨Nat.ne_of_lt (rawtq (dw, _) (by walk_at "MINE mem")), Nat.ne_of_lt (rawtq (dk, _) (by walk_at "MINE mem")), Nat.ne_of_lt (rawtq (L + 1 + 1, _) (by walk_at "MINE mem")), Nat.ne_of_lt (rawtq (L + 1, _) (by walk_at "MINE mem")), Nat.ne_of_lt (rawtq (305, _) (by walk_at "MINE mem")), (fun z hz => Nat.ne_of_lt (rawtq z (by have := hOY z hz; repeat (first | assumption | refine List.Mem.tail _ ?_))))⟩, List.forall_mem_nil _⟩⟩⟩) (fr9_add hO fr1)) off
          case fd0 => (try dsimp only); omega
          case fd1 => (try dsimp only); omega
          case fhdl => (try dsimp only); exact (by have := List.mem_append_right add (hdl); repeat (first | assumption | refine List.Mem.tail _ ?_))
          case fhE => (try dsimp only); (have := List.mem_append_left tl mE2; repeat (first | assumption | refine List.Mem.tail _ ?_))
          case fhEs => (try dsimp only); exact DatAll.mono (fun p hp => (by repeat (first | assumption | refine List.Mem.tail _ ?_))) hE2
          case fhEl => (try dsimp only); omega
          case fhL => (try dsimp only); (have := List.mem_append_left tl mL2; repeat (first | assumption | refine List.Mem.tail _ ?_))
          case fhLs => (try dsimp only); exact DatAll.mono (fun p hp => (by repeat (first | assumption | refine List.Mem.tail _ ?_))) hL2
          case fhLl => (try dsimp only); omega
          case fhle => (try dsimp only); exact List.Mem.head _
          case fhles => (try dsimp only); exact DatAll.mono (fun p hp => (by have := List.mem_append_right add hp; repeat (first | assumption | refine List.Mem.tail _ ?_))) hD6
          case fhll => (try dsimp only); exact List.Mem.tail _ (List.Mem.head _)
          case fhlls => (try dsimp only); exact DatAll.mono (fun p hp => (by have := List.mem_append_right add hp; repeat (first | assumption | refine List.Mem.tail _ ?_))) hD7
          case fhsh => (try dsimp only); (have := List.mem_append_right add rm; repeat (first | assumption | refine List.Mem.tail _ ?_))
          case fhlv => (try dsimp only); exact (by have := List.mem_append_right add (hlv); repeat (first | assumption | refine List.Mem.tail _ ?_))
          case fhlvD => (try dsimp only); exact hlvD
          case fn2 => (try dsimp only); exact n2
          case fn5 => (try dsimp only); exact n5
          case fnd => (try dsimp only); exact nd
          case fn0 => (try dsimp only); exact n0
          case fhb => (try dsimp only); exact ha1
          case fhe => (try dsimp only); exact rowIn_filter (rowIn_snoc (rowIn_filter he) hb)
          case fhl => (try dsimp only); exact rowIn_filter hl
          case fhoL => (try dsimp only); exact hoL
          case fhoB => (try dsimp only); exact ⟨_, hoB0⟩
          case ftab => (try dsimp only); exact TabOk.mono tab (fun p hp => (by have := List.mem_append_right add (hp); repeat (first | assumption | refine List.Mem.tail _ ?_)))
          case fkm => (try dsimp only); unfold known; dsimp only; (iterate 6 (refine List.forall_mem_cons.mpr ⟨by rfl, ?_⟩)); exact List.forall_mem_nil _

theorem way2 {w : World} {base g0 : Heap} {mg mb : Str → Option Value} {mean : ExcName → Option Value} {loose : List Str} {C : Co} {v : V} {own : List (Addr × Obj)} {i : Nat} {m : Str → Option Value} {s : Shared} {E : Value → Shared → Prop} {Q : Flow → Shared → Prop} {fa : Addr} {S : Scope} {bd : List Stmt}
    (hS : S = lawS) (hbd : bd = ifB ch2) (B : Below callerA base [] g0) (F : Fr g0 C.L s.heap m) (X : (Mine.hd.heap_1 w.params).In g0) (T : Top topProg loose mean mg mb g0) (CH : CodeHd g0 307 305)
    (N : News g0 C.L s.heap (led w C v ++ own)) (hC : C.ok w) (hv : v.ok C own i m) (hown : OwnOff own (adr9 C)) (hi : i ≤ 30)
    
    (hQ : ∀ v' m' h' tk, V.ok C own v' (i + 1) m' → Fr g0 C.L h' m' → News g0 C.L h' (led w C v' ++ own) → Q .next { s with heap := h', toks := tk }) :
    wpAny (model Challenge.rw_np0058_01.row.prog w) (callerA.deeper (envOfC "law" S C.L fa (.ref 307))) (execs bd (envOfC "law" S C.L fa (.ref 307))) Q E s := by
  have hPR : PySem.Challenge.rw_np0058_01 = PySem.Challenge.rw_np0058_01 ∧ Mine.hd.heap_1 = Mine.hd.heap_1 := by
    k_fill
    exact ⟨rfl, rfl⟩
  have hKd := kdMark
  conv at hS => rhs; whnf
  conv at hbd => rhs; whnf
  subst hS hbd
  obtain ⟨k0, k1, k2, k3, k4, k5, k6, k7, k8, k9, k10, k11, k12, k13, k14, k15, t0, t1, t2, t4, t5, t6, t7, t13, j0, j1, j2, j3, j4, j5, j6, u1, u2, u3, u4, u5, u6, ch, dws, dw, xw, dt, xt, dk, dl, L, ow, dn, ys, zs⟩ := C
  obtain ⟨d, dkt, b, st, p, h, bt, stt, pt, ht, we, wl, evs, lvs, en, ln, es, ls, sh, shn, x1, x2, x3, x4, le, ll, les, lls, lem, llm, lv, lvv, lvn, ns, oL, oB, ps, tl⟩ := v
  obtain ⟨off, d0, d1, hdl, hE, hEs, hEl, hL, hLs, hLl, hle, hles, hll, hlls, hsh, hlv, hlvD, n2, n5, nd, n0, hb, he, hl, hoL, hoBx, tab, km⟩ := hv
  obtain ⟨lo, how, nn1, nn2, nn3, nn4, nn5, mm1, mm2, mm3, mm4, mm5, o0, o1, o2, o3, o4, o5, o6, hI, hz⟩ := hC
  dsimp only at *
  have F0 := fr_known _ km F
  have eKm := kst_eqm km
  dsimp only [known, kstB] at F0 eKm
  unfold led at N
  dsimp only [List.cons_append] at N
  refine re_ledA (adr := [dw, dk, L + 1 + 1, L + 1, 305]) [(dw, _), (xw, _), (dt, _), (xt, _), (dws, _), (dk, _), (L + 1 + 1, _), (L + 1, _), (305, _)] (tl ++ own) N (fun _ h => h) (off_app off hown) ?_
  intro tlX hsX hsX' hOffX NX
  clear N F
  dsimp only [List.cons_append, List.nil_append] at NX
  have hT : ∀ p ∈ tl, p ∈ tlX := fun p hp => hsX p (List.mem_append_left _ hp)
  have hO : ∀ p ∈ own, p ∈ tlX := fun p hp => hsX p (List.mem_append_right _ hp)
  have gdl := hT _ hdl
  have gE := hT _ hE
  have gL := hT _ hL
  have gle := hT _ hle
  have gll := hT _ hll
  have gsh := hT _ hsh
  have glv := hT _ hlv
  obtain ⟨bx, hoB0⟩ := hoBx
  have ql1 := hEs.length
  have ql2 := hles.length
  have ql3 := hLs.length
  have ql4 := hlls.length
  (repeat' (first | (k_unfold; (try dsimp only)) | (walk_at "MINE stop"; walk1) | (dsimp only; walk_at "MINE stop"; walk1) | (dsimp only; k_unfold; (try dsimp only))))
  refine draw_led (by k_asm) (by k_asm) (by k_asm) (by k_asm) (by k_asm) rfl rfl (by k_room) (by k_updF) (by walk_at "MINE mem") mm5 hI hz (by omega) (by omega) (by omega) (by omega) ?_
  intro r tr tkr hr tkkr r0 r1 Fr Nr
  (try dsimp only at Nr)
  (repeat' (first | (k_unfold; (try dsimp only)) | (walk_at "MINE stop"; walk1) | (dsimp only; walk_at "MINE stop"; walk1) | (dsimp only; k_unfold; (try dsimp only))))
  refine kup_newTuple (by k_asm) (by k_asm) ?_ (Nat.le_of_ble_eq_true rfl)
  intro tq h2 F2 N2 lt2
  have raw2 := lt2
  (try k_lt lt2)
  (repeat' (first | (k_unfold; (try dsimp only)) | (walk_at "MINE stop"; walk1) | (dsimp only; walk_at "MINE stop"; walk1) | (dsimp only; k_unfold; (try dsimp only))))
  rename Fr g0 L _ _ => kF
  rename News g0 L _ _ => kN
  refine' hQ ⟨d + 1, tkr, b, st, 2 + r, h, bt, stt, _, ht, we, wl, evs, lvs, en, ln, es, ls, tq, 0, _, _, _, _, le, ll, les, lls, lem, llm, lv, lvv, lvn, ns, oL, oB, ps, (tq, tupObj [Value.int b _, Value.int st _, Value.int (2 + r) _, Value.int h _] 0) :: tl⟩ _ _ _ ?ok kF ?nw
  case nw =>
    intro p hp
    refine kN p ?_
    revert p
    unfold led
    dsimp only [List.cons_append]
    iterate 10 (refine List.forall_mem_cons.mpr ⟨by walk_at "MINE mem", ?_⟩)
    exact fun z hz => (by have := hsX z hz; repeat (first | assumption | refine List.Mem.tail _ ?_))
  case ok =>
    refine' V.ok.mk ?foff ?fd0 ?fd1 ?fhdl ?fhE ?fhEs ?fhEl ?fhL ?fhLs ?fhLl ?fhle ?fhles ?fhll ?fhlls ?fhsh ?fhlv ?fhlvD ?fn2 ?fn5 ?fnd ?fn0 ?fhb ?fhe ?fhl ?fhoL ?fhoB ?ftab ?fkm
    case foff => (try dsimp only); exact off_new (add := [(tq, tupObj [Value.int b _, Value.int st _, Value.int (2 + r) _, Value.int h _] 0)]) (List.forall_mem_cons.mpr ⟨⟨Nat.ne_of_lt (raw2 (dw, _) (by walk_at "MINE mem")), Nat.ne_of_lt (raw2 (dk, _) (by walk_at "MINE mem")), Nat.ne_of_lt (raw2 (L + 1 + 1, _) (by walk_at "MINE mem")), Nat.ne_of_lt (raw2 (L + 1, _) (by walk_at "MINE mem")), Nat.ne_of_lt (raw2 (305, _) (by walk_at "MINE mem")), (fun z hz => Nat.ne_of_lt (raw2 z (by have := hO z hz; repeat (first | assumption | refine List.Mem.tail _ ?_))))⟩, List.forall_mem_nil _⟩) off
    case fd0 => (try dsimp only); omega
    case fd1 => (try dsimp only); omega
    case fhdl => (try dsimp only); exact (by have := hdl; repeat (first | assumption | refine List.Mem.tail _ ?_))
    case fhE => (try dsimp only); exact (by have := hE; repeat (first | assumption | refine List.Mem.tail _ ?_))
    case fhEs => (try dsimp only); exact DatAll.mono (fun p hp => (by have := hp; repeat (first | assumption | refine List.Mem.tail _ ?_))) hEs
    case fhEl => (try dsimp only); omega
    case fhL => (try dsimp only); exact (by have := hL; repeat (first | assumption | refine List.Mem.tail _ ?_))
    case fhLs => (try dsimp only); exact DatAll.mono (fun p hp => (by have := hp; repeat (first | assumption | refine List.Mem.tail _ ?_))) hLs
    case fhLl => (try dsimp only); omega
    case fhle => (try dsimp only); exact (by have := hle; repeat (first | assumption | refine List.Mem.tail _ ?_))
    case fhles => (try dsimp only); exact DatAll.mono (fun p hp => (by have := hp; repeat (first | assumption | refine List.Mem.tail _ ?_))) hles
    case fhll => (try dsimp only); exact (by have := hll; repeat (first | assumption | refine List.Mem.tail _ ?_))
    case fhlls => (try dsimp only); exact DatAll.mono (fun p hp => (by have := hp; repeat (first | assumption | refine List.Mem.tail _ ?_))) hlls
    case fhsh => (try dsimp only); exact List.Mem.head _
    case fhlv => (try dsimp only); exact (by have := hlv; repeat (first | assumption | refine List.Mem.tail _ ?_))
    case fhlvD => (try dsimp only); exact hlvD
    case fn2 => (try dsimp only); exact n2
    case fn5 => (try dsimp only); exact n5
    case fnd => (try dsimp only); exact nd
    case fn0 => (try dsimp only); exact n0
    case fhb => (try dsimp only); exact hb
    case fhe => (try dsimp only); exact he
    case fhl => (try dsimp only); exact hl
    case fhoL => (try dsimp only); exact hoL
    case fhoB => (try dsimp only); exact ⟨_, hoB0⟩
    case ftab => (try dsimp only); exact TabOk.mono tab (fun p hp => (by have := hp; repeat (first | assumption | refine List.Mem.tail _ ?_)))
    case fkm => (try dsimp only); unfold known; dsimp only; (iterate 6 (refine List.forall_mem_cons.mpr ⟨by rfl, ?_⟩)); exact List.forall_mem_nil _

theorem way3 {w : World} {base g0 : Heap} {mg mb : Str → Option Value} {mean : ExcName → Option Value} {loose : List Str} {C : Co} {v : V} {own : List (Addr × Obj)} {i : Nat} {m : Str → Option Value} {s : Shared} {E : Value → Shared → Prop} {Q : Flow → Shared → Prop} {fa : Addr} {S : Scope} {bd : List Stmt}
    (hS : S = lawS) (hbd : bd = ifB ch3) (B : Below callerA base [] g0) (F : Fr g0 C.L s.heap m) (X : (Mine.hd.heap_1 w.params).In g0) (T : Top topProg loose mean mg mb g0) (CH : CodeHd g0 307 305)
    (N : News g0 C.L s.heap (led w C v ++ own)) (hC : C.ok w) (hv : v.ok C own i m) (hown : OwnOff own (adr9 C)) (hi : i ≤ 30)
    
    (hQ : ∀ v' m' h' tk, V.ok C own v' (i + 1) m' → Fr g0 C.L h' m' → News g0 C.L h' (led w C v' ++ own) → Q .next { s with heap := h', toks := tk }) :
    wpAny (model Challenge.rw_np0058_01.row.prog w) (callerA.deeper (envOfC "law" S C.L fa (.ref 307))) (execs bd (envOfC "law" S C.L fa (.ref 307))) Q E s := by
  have hPR : PySem.Challenge.rw_np0058_01 = PySem.Challenge.rw_np0058_01 ∧ Mine.hd.heap_1 = Mine.hd.heap_1 := by
    k_fill
    exact ⟨rfl, rfl⟩
  have hKd := kdMark
  conv at hS => rhs; whnf
  conv at hbd => rhs; whnf
  subst hS hbd
  obtain ⟨k0, k1, k2, k3, k4, k5, k6, k7, k8, k9, k10, k11, k12, k13, k14, k15, t0, t1, t2, t4, t5, t6, t7, t13, j0, j1, j2, j3, j4, j5, j6, u1, u2, u3, u4, u5, u6, ch, dws, dw, xw, dt, xt, dk, dl, L, ow, dn, ys, zs⟩ := C
  obtain ⟨d, dkt, b, st, p, h, bt, stt, pt, ht, we, wl, evs, lvs, en, ln, es, ls, sh, shn, x1, x2, x3, x4, le, ll, les, lls, lem, llm, lv, lvv, lvn, ns, oL, oB, ps, tl⟩ := v
  obtain ⟨off, d0, d1, hdl, hE, hEs, hEl, hL, hLs, hLl, hle, hles, hll, hlls, hsh, hlv, hlvD, n2, n5, nd, n0, hb, he, hl, hoL, hoBx, tab, km⟩ := hv
  obtain ⟨lo, how, nn1, nn2, nn3, nn4, nn5, mm1, mm2, mm3, mm4, mm5, o0, o1, o2, o3, o4, o5, o6, hI, hz⟩ := hC
  dsimp only at *
  have F0 := fr_known _ km F
  have eKm := kst_eqm km
  dsimp only [known, kstB] at F0 eKm
  unfold led at N
  dsimp only [List.cons_append] at N
  refine re_ledA (adr := [dw, dk, L + 1 + 1, L + 1, 305]) [(dw, _), (xw, _), (dt, _), (xt, _), (dws, _), (dk, _), (L + 1 + 1, _), (L + 1, _), (305, _)] (tl ++ own) N (fun _ h => h) (off_app off hown) ?_
  intro tlX hsX hsX' hOffX NX
  clear N F
  dsimp only [List.cons_append, List.nil_append] at NX
  have hT : ∀ p ∈ tl, p ∈ tlX := fun p hp => hsX p (List.mem_append_left _ hp)
  have hO : ∀ p ∈ own, p ∈ tlX := fun p hp => hsX p (List.mem_append_right _ hp)
  have gdl := hT _ hdl
  have gE := hT _ hE
  have gL := hT _ hL
  have gle := hT _ hle
  have gll := hT _ hll
  have gsh := hT _ hsh
  have glv := hT _ hlv
  obtain ⟨bx, hoB0⟩ := hoBx
  have ql1 := hEs.length
  have ql2 := hles.length
  have ql3 := hLs.length
  have ql4 := hlls.length
  (repeat' (first | (k_unfold; (try dsimp only)) | (walk_at "MINE stop"; walk1) | (dsimp only; walk_at "MINE stop"; walk1) | (dsimp only; k_unfold; (try dsimp only))))
  refine ne_nil (by k_asm) (by walk_at "MINE mem") (by walk_at "MINE mem") hles (by exact (fun z hz => (by have := hT z hz; repeat (first | assumption | refine List.Mem.tail _ ?_)))) (fun d hd => (he d hd).isRow) (Nat.le_of_ble_eq_true rfl) ?_
  rcases List.eq_nil_or_concat es with hes | ⟨es0, dd, hes⟩
  · have ee : es.isEmpty = true := by rw [hes]; rfl
    rw [ee]
    simp only [Bool.not_true]
    (repeat' (first | (k_unfold; (try dsimp only)) | (walk_at "MINE stop"; walk1) | (dsimp only; walk_at "MINE stop"; walk1) | (dsimp only; k_unfold; (try dsimp only))))
    refine news_tail (by k_asm) ?_
    intro NC
    refine lam_eval (L9 := tl) (by k_asm) (by k_asm) (by k_asm) CH rfl (by k_updF) (fun z hz => (by have := hT z hz; repeat (first | assumption | refine List.Mem.tail _ ?_))) tab (by rfl) ?_
    intro fL cL' oc9 vs9 tt9 ctv9 ps' addc hL' tkL' FL NL tab' hc9 hd9 hv9 frc frf
    (try dsimp only at NL)
    refine re_ledA (adr := [dw, dk, L + 1 + 1, L + 1, 305]) _ ((fL, _) :: (addc ++ tlX)) NL sub_lam (off_lam hOffX frc frf) ?_
    intro tlY hsY hsY' hOffY NY
    clear hsY' NL
    dsimp only [List.cons_append, List.nil_append] at NY
    have cF := hsY _ (.head _)
    have hTY : ∀ p ∈ tl, p ∈ tlY := fun p hp => hsY p (.tail _ (List.mem_append_right _ (hT p hp)))
    have hAC : ∀ p ∈ addc, p ∈ tlY := fun p hp => hsY p (.tail _ (List.mem_append_left _ hp))
    have hOY : ∀ p ∈ own, p ∈ tlY := fun p hp => hsY p (.tail _ (List.mem_append_right _ (hO p hp)))
    have hcY : (cL', oc9) ∈ tlY := (List.mem_append.mp hc9).elim (hAC _) (hTY _)
    have yE := hTY _ hE
    have yL := hTY _ hL
    have yle := hTY _ hle
    have yll := hTY _ hll
    have ysh := hTY _ hsh
    have ylv := hTY _ hlv
    (repeat' (first | (k_unfold; (try dsimp only)) | (walk_at "MINE stop"; walk1) | (dsimp only; walk_at "MINE stop"; walk1) | (dsimp only; k_unfold; (try dsimp only))))
    refine previous_call (L9 := tl) (by k_asm) (by k_asm) (by k_asm) (by k_asm) rfl rfl (by k_asm) (fun p hp => (by have := hTY p hp; repeat (first | assumption | refine List.Mem.tail _ ?_))) (fun z hz b hb => by rw [List.mem_singleton.mp hb]; exact off_cons nn5.symm (off_cons (Nat.ne_of_lt o1) (off_cons (Nat.ne_of_lt (by omega)) (off_cons (Nat.ne_of_lt (by omega)) (fun p hp => hOffY p hp dw (.head _))))) z hz) nn1 nn2 nn3 nn4 lo how (by walk_at "MINE mem") hEs (fun d hd => (he d hd).isRow) (by omega) (by walk_at "MINE mem") hLs (fun d hd => (hl d hd).isRow) (by omega) (by walk_at "MINE mem") (by walk_at "MINE mem") hd9 hv9 (by walk_at "MINE mem") hoL (by walk_at "MINE mem") hlvD he ?_ ?_
    · intro _ h1 tk1 we2 en2 t9 F1 fr1 N1
      (repeat' (first | (k_unfold; (try dsimp only)) | (walk_at "MINE stop"; walk1) | (dsimp only; walk_at "MINE stop"; walk1) | (dsimp only; k_unfold; (try dsimp only))))
      rename Fr g0 L _ _ => kF
      rename News g0 L _ _ => kN
      refine' hQ ⟨d, dkt, b, st, p, h, bt, stt, pt, ht, we2, wl, [], lvs, en2, ln, es, ls, sh, shn, x1, x2, x3, x4, le, ll, les, lls, lem, llm, lv, lvv, lvn, ns, oL, oB, ps', (we2, listOf ([] : List Value).toArray en2) :: (addc ++ tl)⟩ _ _ _ ?ok kF ?nw
      case nw =>
        intro p hp
        refine kN p ?_
        revert p
        unfold led
        dsimp only [List.cons_append]
        iterate 10 (refine List.forall_mem_cons.mpr ⟨by walk_at "MINE mem", ?_⟩)
        exact fun z hz => (by have := (List.mem_append.mp hz).elim (fun h => (List.mem_append.mp h).elim (fun h => hAC z h) (fun h => hTY z h)) (fun h => hOY z h); repeat (first | assumption | refine List.Mem.tail _ ?_))
      case ok =>
        refine' V.ok.mk ?foff ?fd0 ?fd1 ?fhdl ?fhE ?fhEs ?fhEl ?fhL ?fhLs ?fhLl ?fhle ?fhles ?fhll ?fhlls ?fhsh ?fhlv ?fhlvD ?fn2 ?fn5 ?fnd ?fn0 ?fhb ?fhe ?fhl ?fhoL ?fhoB ?ftab ?fkm
        case foff => (try dsimp only); exact off_new (add := [(we2, listOf ([] : List Value).toArray en2)] ++ addc) (fr9_app (List.forall_mem_cons.mpr ⟨⟨fr1.1, fr1.2 _ (.head _), fr1.2 _ (.tail _ (.head _)), fr1.2 _ (.tail _ (.tail _ (.head _))), fr1.2 _ (.tail _ (.tail _ (.tail _ (.head _)))), fun z hz => fr1.2 z (.tail _ (.tail _ (.tail _ (.tail _ (hOY z hz)))))⟩, List.forall_mem_nil _⟩) (fr9_lam hO frc)) off
        case fd0 => (try dsimp only); omega
        case fd1 => (try dsimp only); omega
        case fhdl => (try dsimp only); exact (by have := List.mem_append_right addc (hdl); repeat (first | assumption | refine List.Mem.tail _ ?_))
        case fhE => (try dsimp only); exact List.Mem.head _
        case fhEs => (try dsimp only); rw [hes]; exact .nil
        case fhEl => (try dsimp only); exact Nat.zero_le _
        case fhL => (try dsimp only); exact (by have := List.mem_append_right addc (hL); repeat (first | assumption | refine List.Mem.tail _ ?_))
        case fhLs => (try dsimp only); exact DatAll.mono (fun p hp => (by have := List.mem_append_right addc (hp); repeat (first | assumption | refine List.Mem.tail _ ?_))) hLs
        case fhLl => (try dsimp only); omega
        case fhle => (try dsimp only); exact (by have := List.mem_append_right addc (hle); repeat (first | assumption | refine List.Mem.tail _ ?_))
        case fhles => (try dsimp only); exact DatAll.mono (fun p hp => (by have := List.mem_append_right addc (hp); repeat (first | assumption | refine List.Mem.tail _ ?_))) hles
        case fhll => (try dsimp only); exact (by have := List.mem_append_right addc (hll); repeat (first | assumption | refine List.Mem.tail _ ?_))
        case fhlls => (try dsimp only); exact DatAll.mono (fun p hp => (by have := List.mem_append_right addc (hp); repeat (first | assumption | refine List.Mem.tail _ ?_))) hlls
        case fhsh => (try dsimp only); exact (by have := List.mem_append_right addc (hsh); repeat (first | assumption | refine List.Mem.tail _ ?_))
        case fhlv => (try dsimp only); exact (by have := List.mem_append_right addc (hlv); repeat (first | assumption | refine List.Mem.tail _ ?_))
        case fhlvD => (try dsimp only); exact hlvD
        case fn2 => (try dsimp only); exact n2
        case fn5 => (try dsimp only); exact n5
        case fnd => (try dsimp only); exact nd
        case fn0 => (try dsimp only); exact n0
        case fhb => (try dsimp only); exact hb
        case fhe => (try dsimp only); exact he
        case fhl => (try dsimp only); exact hl
        case fhoL => (try dsimp only); exact hoL
        case fhoB => (try dsimp only); exact ⟨_, hoB0⟩
        case ftab => (try dsimp only); exact TabOk.mono tab' (fun p hp => (by repeat (first | assumption | refine List.Mem.tail _ ?_)))
        case fkm => (try dsimp only); unfold known; dsimp only; (iterate 6 (refine List.forall_mem_cons.mpr ⟨by rfl, ?_⟩)); exact List.forall_mem_nil _
    · intro es0 nb2 ns2 np nh hes2
      rw [hes] at hes2
      exact absurd hes2.symm (by simp)
  · rw [List.concat_eq_append] at hes
    have ee : es.isEmpty = false := by rw [hes]; simp
    rw [ee]
    simp only [Bool.not_false]
    have hr' : RowIn ns dd := he dd (by rw [hes]; exact List.mem_append.mpr (.inr (.head _)))
    obtain ⟨a1, a2, a3, a4, rfl, ha1⟩ := hr'
    have hles' := hles
    rw [hes] at hles'
    obtain ⟨vs, v, rfl, hv0, hv⟩ := datall_concat hles'
    obtain ⟨ra, rn, y1, y2, y3, y4, rfl, rm⟩ := dat_row hv
    have rmX := hT _ rm
    (repeat' (first | (k_unfold; (try dsimp only)) | (walk_at "MINE stop"; walk1) | (dsimp only; walk_at "MINE stop"; walk1) | (dsimp only; k_unfold; (try dsimp only))))
    refine item_last (by k_asm) (by walk_at "MINE mem") ?_
    (repeat' (first | (k_unfold; (try dsimp only)) | (walk_at "MINE stop"; walk1) | (dsimp only; walk_at "MINE stop"; walk1) | (dsimp only; k_unfold; (try dsimp only))))
    refine news_tail (by k_asm) ?_
    intro NC
    refine lam_eval (L9 := tl) (by k_asm) (by k_asm) (by k_asm) CH rfl (by k_updF) (fun z hz => (by have := hT z hz; repeat (first | assumption | refine List.Mem.tail _ ?_))) tab (by rfl) ?_
    intro fL cL' oc9 vs9 tt9 ctv9 ps' addc hL' tkL' FL NL tab' hc9 hd9 hv9 frc frf
    (try dsimp only at NL)
    refine re_ledA (adr := [dw, dk, L + 1 + 1, L + 1, 305]) _ ((fL, _) :: (addc ++ tlX)) NL sub_lam (off_lam hOffX frc frf) ?_
    intro tlY hsY hsY' hOffY NY
    clear hsY' NL
    dsimp only [List.cons_append, List.nil_append] at NY
    have cF := hsY _ (.head _)
    have hTY : ∀ p ∈ tl, p ∈ tlY := fun p hp => hsY p (.tail _ (List.mem_append_right _ (hT p hp)))
    have hAC : ∀ p ∈ addc, p ∈ tlY := fun p hp => hsY p (.tail _ (List.mem_append_left _ hp))
    have hOY : ∀ p ∈ own, p ∈ tlY := fun p hp => hsY p (.tail _ (List.mem_append_right _ (hO p hp)))
    have hcY : (cL', oc9) ∈ tlY := (List.mem_append.mp hc9).elim (hAC _) (hTY _)
    have yE := hTY _ hE
    have yL := hTY _ hL
    have yle := hTY _ hle
    have yll := hTY _ hll
    have ysh := hTY _ hsh
    have ylv := hTY _ hlv
    (repeat' (first | (k_unfold; (try dsimp only)) | (walk_at "MINE stop"; walk1) | (dsimp only; walk_at "MINE stop"; walk1) | (dsimp only; k_unfold; (try dsimp only))))
    refine previous_call (L9 := tl) (by k_asm) (by k_asm) (by k_asm) (by k_asm) rfl rfl (by k_asm) (fun p hp => (by have := hTY p hp; repeat (first | assumption | refine List.Mem.tail _ ?_))) (fun z hz b hb => by rw [List.mem_singleton.mp hb]; exact off_cons nn5.symm (off_cons (Nat.ne_of_lt o1) (off_cons (Nat.ne_of_lt (by omega)) (off_cons (Nat.ne_of_lt (by omega)) (fun p hp => hOffY p hp dw (.head _))))) z hz) nn1 nn2 nn3 nn4 lo how (by walk_at "MINE mem") hEs (fun d hd => (he d hd).isRow) (by omega) (by walk_at "MINE mem") hLs (fun d hd => (hl d hd).isRow) (by omega) (by walk_at "MINE mem") (by walk_at "MINE mem") hd9 hv9 (by walk_at "MINE mem") hoL (by walk_at "MINE mem") hlvD he ?_ ?_
    · intro hes2
      rw [hes] at hes2
      exact absurd hes2 (by simp)
    · intro es0' nb2 ns2 np nh hes2 h1 tk1 add nbt nst npt nht t9 we2 wl2 evs2 lvs2 en2 ln2 F1 N1 fr1 mE2 hE2 lE2 mL2 hL2 lL2
      obtain ⟨_, q⟩ := snoc_inj (hes.symm.trans hes2)
      obtain ⟨q1, q2, q3, q4⟩ := rowD_inj q
      subst nb2 ns2 np nh
      have rmY := hTY _ rm
      refine re_ledA (adr := [dw, dk, L + 1 + 1, L + 1, 305]) _ (add ++ tlY) N1 sub_add (off_add hOffY fr1) ?_
      intro tlZ hsZ hsZ' hOffZ NZ
      clear hsZ' N1
      dsimp only [List.cons_append, List.nil_append] at NZ
      have hTZ : ∀ p ∈ tl, p ∈ tlZ := fun p hp => hsZ p (List.mem_append_right _ (hTY p hp))
      have hOZ : ∀ p ∈ own, p ∈ tlZ := fun p hp => hsZ p (List.mem_append_right _ (hOY p hp))
      have hCZ : ∀ p ∈ addc, p ∈ tlZ := fun p hp => hsZ p (List.mem_append_right _ (hAC p hp))
      have hAZ : ∀ p ∈ add, p ∈ tlZ := fun p hp => hsZ p (List.mem_append_left _ hp)
      have zle := hTZ _ hle
      have zll := hTZ _ hll
      have zsh := hTZ _ hsh
      have zlv := hTZ _ hlv
      have rmZ := hTZ _ rm
      (repeat' (first | (k_unfold; (try dsimp only)) | (walk_at "MINE stop"; walk1) | (dsimp only; walk_at "MINE stop"; walk1) | (dsimp only; k_unfold; (try dsimp only))))
      · exact absurd rfl (by assumption : a1 ≠ a1)
      rotate_left 1
      · exact absurd (by assumption) (n0 a1 ha1)
      refine lawbut_call (by k_asm) (by k_asm) (by k_asm) (by k_asm) (by k_asm) rfl rfl (by k_room) (L9 := tl) (fun z hz => (by have := hTZ z hz; repeat (first | assumption | refine List.Mem.tail _ ?_))) (by walk_at "MINE mem") (hlls) (fun d hd => (hl d hd).isRow) (by omega) ?_
      intro D4 ys4 h4 tk4 hD4 hl4 F4 N4 off4
      (repeat' (first | (k_unfold; (try dsimp only)) | (walk_at "MINE stop"; walk1) | (dsimp only; walk_at "MINE stop"; walk1) | (dsimp only; k_unfold; (try dsimp only))))
      refine cat_rows (by k_asm) (by k_asm) (by walk_at "MINE mem") (by walk_at "MINE mem") (by simp only [List.length_cons, List.length_nil]; omega) ?_
      intro D5 hD5 FD5 ND5 ltD5
      have rawD5 := ltD5
      (try k_lt ltD5)
      (repeat' (first | (k_unfold; (try dsimp only)) | (walk_at "MINE stop"; walk1) | (dsimp only; walk_at "MINE stop"; walk1) | (dsimp only; k_unfold; (try dsimp only))))
      refine item_last (by k_asm) (by walk_at "MINE mem") ?_
      (repeat' (first | (k_unfold; (try dsimp only)) | (walk_at "MINE stop"; walk1) | (dsimp only; walk_at "MINE stop"; walk1) | (dsimp only; k_unfold; (try dsimp only))))
      refine lawbut_call (by k_asm) (by k_asm) (by k_asm) (by k_asm) (by k_asm) rfl rfl (by k_room) (L9 := tl) (fun z hz => (by have := hTZ z hz; repeat (first | assumption | refine List.Mem.tail _ ?_))) (by walk_at "MINE mem") (hles) (fun d hd => (he d hd).isRow) (by omega) ?_
      intro D6 ys6 h6 tk6 hD6 hl6 F6 N6 off6
      (repeat' (first | (k_unfold; (try dsimp only)) | (walk_at "MINE stop"; walk1) | (dsimp only; walk_at "MINE stop"; walk1) | (dsimp only; k_unfold; (try dsimp only))))
      refine kup_newTuple (by k_asm) (by k_asm) ?_ (Nat.le_of_ble_eq_true rfl)
      intro tg htg Ftg Ntg lttg
      have rawtg := lttg
      (try k_lt lttg)
      (repeat' (first | (k_unfold; (try dsimp only)) | (walk_at "MINE stop"; walk1) | (dsimp only; walk_at "MINE stop"; walk1) | (dsimp only; k_unfold; (try dsimp only))))
      rename Fr g0 L _ _ => kF
      rename News g0 L _ _ => kN
      refine' hQ ⟨d, dkt, a1, a2, a3, a4, nbt, nst, npt, nht, we2, wl2, evs2, lvs2, en2, ln2, (es.filter (rowNe a1)), (rowD b st p h :: ls.filter (rowNe b)), ra, rn, _, _, _, _, D6, D5, ys6, ([Value.ref sh] ++ ys4), ys6.length, 0, lv, lvv, lvn, ns, oL, oB, ps', (D6, LCg.lst ys6) :: (D5, listOf ([Value.ref sh] ++ ys4).toArray 0) :: ((add ++ addc) ++ tl)⟩ _ _ _ ?ok kF ?nw
      case nw =>
        intro p hp
        refine kN p ?_
        revert p
        unfold led
        dsimp only [List.cons_append]
        iterate 11 (refine List.forall_mem_cons.mpr ⟨by walk_at "MINE mem", ?_⟩)
        exact fun z hz => (by have := (List.mem_append.mp hz).elim (fun h => (List.mem_append.mp h).elim (fun h => (List.mem_append.mp h).elim (fun h => hAZ z h) (fun h => hCZ z h)) (fun h => hTZ z h)) (fun h => hOZ z h); repeat (first | assumption | refine List.Mem.tail _ ?_))
      case ok =>
        refine' V.ok.mk ?foff ?fd0 ?fd1 ?fhdl ?fhE ?fhEs ?fhEl ?fhL ?fhLs ?fhLl ?fhle ?fhles ?fhll ?fhlls ?fhsh ?fhlv ?fhlvD ?fn2 ?fn5 ?fnd ?fn0 ?fhb ?fhe ?fhl ?fhoL ?fhoB ?ftab ?fkm
        case foff => (try dsimp only); exact off_new (add := [(D6, LCg.lst ys6), (D5, listOf ([Value.ref sh] ++ ys4).toArray 0)] ++ (add ++ addc)) (fr9_app (List.forall_mem_cons.mpr ⟨⟨off1_mem off6 (dw, _) (by walk_at "MINE mem"), off1_mem off6 (dk, _) (by walk_at "MINE mem"), off1_mem off6 (L + 1 + 1, _) (by walk_at "MINE mem"), off1_mem off6 (L + 1, _) (by walk_at "MINE mem"), off1_mem off6 (305, _) (by walk_at "MINE mem"), (fun z hz => off1_mem off6 z (by have := hOZ z hz; repeat (first | assumption | refine List.Mem.tail _ ?_)))⟩, List.forall_mem_cons.mpr ⟨⟨Nat.ne_of_lt (rawD5 (dw, _) (by walk_at "MINE mem")), Nat.ne_of_lt (rawD5 (dk, _) (by walk_at "MINE mem")), Nat.ne_of_lt (rawD5 (L + 1 + 1, _) (by walk_at "MINE mem")), Nat.ne_of_lt (rawD5 (L + 1, _) (by walk_at "MINE mem")), Nat.ne_of_lt (rawD5 (305, _) (by walk_at "MINE mem")), (fun z hz => Nat.ne_of_lt (rawD5 z (by have := hOZ z hz; repeat (first | assumption | refine List.Mem.tail _ ?_))))⟩, List.forall_mem_nil _⟩⟩) (fr9_app (fr9_add hOY fr1) (fr9_lam hO frc))) off
        case fd0 => (try dsimp only); omega
        case fd1 => (try dsimp only); omega
        case fhdl => (try dsimp only); exact (by have := List.mem_append_right (add ++ addc) (hdl); repeat (first | assumption | refine List.Mem.tail _ ?_))
        case fhE => (try dsimp only); (have := List.mem_append_left tl (List.mem_append_left addc mE2); repeat (first | assumption | refine List.Mem.tail _ ?_))
        case fhEs => (try dsimp only); exact DatAll.mono (fun p hp => (by have := ((List.mem_append.mp hp).elim (fun h => List.mem_append_left tl (List.mem_append_left addc h)) (fun h => List.mem_append_right (add ++ addc) h)); repeat (first | assumption | refine List.Mem.tail _ ?_))) hE2
        case fhEl => (try dsimp only); omega
        case fhL => (try dsimp only); (have := List.mem_append_left tl (List.mem_append_left addc mL2); repeat (first | assumption | refine List.Mem.tail _ ?_))
        case fhLs => (try dsimp only); exact DatAll.mono (fun p hp => (by have := ((List.mem_append.mp hp).elim (fun h => List.mem_append_left tl (List.mem_append_left addc h)) (fun h => List.mem_append_right (add ++ addc) h)); repeat (first | assumption | refine List.Mem.tail _ ?_))) hL2
        case fhLl => (try dsimp only); omega
        case fhle => (try dsimp only); exact List.Mem.head _
        case fhles => (try dsimp only); exact DatAll.mono (fun p hp => (by have := List.mem_append_right (add ++ addc) hp; repeat (first | assumption | refine List.Mem.tail _ ?_))) hD6
        case fhll => (try dsimp only); exact List.Mem.tail _ (List.Mem.head _)
        case fhlls => (try dsimp only); exact DatAll.mono (fun p hp => (by have := List.mem_append_right (add ++ addc) hp; repeat (first | assumption | refine List.Mem.tail _ ?_))) (.cons (row_dat hsh) hD4)
        case fhsh => (try dsimp only); (have := List.mem_append_right (add ++ addc) rm; repeat (first | assumption | refine List.Mem.tail _ ?_))
        case fhlv => (try dsimp only); exact (by have := List.mem_append_right (add ++ addc) (hlv); repeat (first | assumption | refine List.Mem.tail _ ?_))
        case fhlvD => (try dsimp only); exact hlvD
        case fn2 => (try dsimp only); exact n2
        case fn5 => (try dsimp only); exact n5
        case fnd => (try dsimp only); exact nd
        case fn0 => (try dsimp only); exact n0
        case fhb => (try dsimp only); exact ha1
        case fhe => (try dsimp only); exact rowIn_filter he
        case fhl => (try dsimp only); exact rowIn_cons (rowIn_filter hl) hb
        case fhoL => (try dsimp only); exact hoL
        case fhoB => (try dsimp only); exact ⟨_, hoB0⟩
        case ftab => (try dsimp only); exact TabOk.mono tab' (fun p hp => (by have := ((List.mem_append.mp hp).elim (fun h => List.mem_append_left tl (List.mem_append_right add h)) (fun h => List.mem_append_right (add ++ addc) h)); repeat (first | assumption | refine List.Mem.tail _ ?_)))
        case fkm => (try dsimp only); unfold known; dsimp only; (iterate 6 (refine List.forall_mem_cons.mpr ⟨by rfl, ?_⟩)); exact List.forall_mem_nil _

theorem way4 {w : World} {base g0 : Heap} {mg mb : Str → Option Value} {mean : ExcName → Option Value} {loose : List Str} {C : Co} {v : V} {own : List (Addr × Obj)} {i : Nat} {m : Str → Option Value} {s : Shared} {E : Value → Shared → Prop} {Q : Flow → Shared → Prop} {fa : Addr} {S : Scope} {bd : List Stmt}
    (hS : S = lawS) (hbd : bd = ifB ch4) (B : Below callerA base [] g0) (F : Fr g0 C.L s.heap m) (X : (Mine.hd.heap_1 w.params).In g0) (T : Top topProg loose mean mg mb g0) (CH : CodeHd g0 307 305)
    (N : News g0 C.L s.heap (led w C v ++ own)) (hC : C.ok w) (hv : v.ok C own i m) (hown : OwnOff own (adr9 C)) (hi : i ≤ 30)
    
    (hQ : ∀ v' m' h' tk, V.ok C own v' (i + 1) m' → Fr g0 C.L h' m' → News g0 C.L h' (led w C v' ++ own) → Q .next { s with heap := h', toks := tk }) :
    wpAny (model Challenge.rw_np0058_01.row.prog w) (callerA.deeper (envOfC "law" S C.L fa (.ref 307))) (execs bd (envOfC "law" S C.L fa (.ref 307))) Q E s := by
  have hPR : PySem.Challenge.rw_np0058_01 = PySem.Challenge.rw_np0058_01 ∧ Mine.hd.heap_1 = Mine.hd.heap_1 := by
    k_fill
    exact ⟨rfl, rfl⟩
  have hKd := kdMark
  conv at hS => rhs; whnf
  conv at hbd => rhs; whnf
  subst hS hbd
  obtain ⟨k0, k1, k2, k3, k4, k5, k6, k7, k8, k9, k10, k11, k12, k13, k14, k15, t0, t1, t2, t4, t5, t6, t7, t13, j0, j1, j2, j3, j4, j5, j6, u1, u2, u3, u4, u5, u6, ch, dws, dw, xw, dt, xt, dk, dl, L, ow, dn, ys, zs⟩ := C
  obtain ⟨d, dkt, b, st, p, h, bt, stt, pt, ht, we, wl, evs, lvs, en, ln, es, ls, sh, shn, x1, x2, x3, x4, le, ll, les, lls, lem, llm, lv, lvv, lvn, ns, oL, oB, ps, tl⟩ := v
  obtain ⟨off, d0, d1, hdl, hE, hEs, hEl, hL, hLs, hLl, hle, hles, hll, hlls, hsh, hlv, hlvD, n2, n5, nd, n0, hb, he, hl, hoL, hoBx, tab, km⟩ := hv
  obtain ⟨lo, how, nn1, nn2, nn3, nn4, nn5, mm1, mm2, mm3, mm4, mm5, o0, o1, o2, o3, o4, o5, o6, hI, hz⟩ := hC
  dsimp only at *
  have F0 := fr_known _ km F
  have eKm := kst_eqm km
  dsimp only [known, kstB] at F0 eKm
  unfold led at N
  dsimp only [List.cons_append] at N
  refine re_ledA (adr := [dw, dk, L + 1 + 1, L + 1, 305]) [(dw, _), (xw, _), (dt, _), (xt, _), (dws, _), (dk, _), (L + 1 + 1, _), (L + 1, _), (305, _)] (tl ++ own) N (fun _ h => h) (off_app off hown) ?_
  intro tlX hsX hsX' hOffX NX
  clear N F
  dsimp only [List.cons_append, List.nil_append] at NX
  have hT : ∀ p ∈ tl, p ∈ tlX := fun p hp => hsX p (List.mem_append_left _ hp)
  have hO : ∀ p ∈ own, p ∈ tlX := fun p hp => hsX p (List.mem_append_right _ hp)
  have gdl := hT _ hdl
  have gE := hT _ hE
  have gL := hT _ hL
  have gle := hT _ hle
  have gll := hT _ hll
  have gsh := hT _ hsh
  have glv := hT _ hlv
  obtain ⟨bx, hoB0⟩ := hoBx
  have ql1 := hEs.length
  have ql2 := hles.length
  have ql3 := hLs.length
  have ql4 := hlls.length
  (repeat' (first | (k_unfold; (try dsimp only)) | (walk_at "MINE stop"; walk1) | (dsimp only; walk_at "MINE stop"; walk1) | (dsimp only; k_unfold; (try dsimp only))))
  refine ne_nil (by k_asm) (by walk_at "MINE mem") (by walk_at "MINE mem") hlls (by exact (fun z hz => (by have := hT z hz; repeat (first | assumption | refine List.Mem.tail _ ?_)))) (fun d hd => (hl d hd).isRow) (Nat.le_of_ble_eq_true rfl) ?_
  rcases hes : ls with _ | ⟨dd, ls0⟩
  · have ee : ls.isEmpty = true := by rw [hes]; rfl
    simp only [List.isEmpty_nil, Bool.not_true]
    (repeat' (first | (k_unfold; (try dsimp only)) | (walk_at "MINE stop"; walk1) | (dsimp only; walk_at "MINE stop"; walk1) | (dsimp only; k_unfold; (try dsimp only))))
    refine news_tail (by k_asm) ?_
    intro NC
    refine lam_eval (L9 := tl) (by k_asm) (by k_asm) (by k_asm) CH rfl (by k_updF) (fun z hz => (by have := hT z hz; repeat (first | assumption | refine List.Mem.tail _ ?_))) tab (by rfl) ?_
    intro fL cL' oc9 vs9 tt9 ctv9 ps' addc hL' tkL' FL NL tab' hc9 hd9 hv9 frc frf
    (try dsimp only at NL)
    refine re_ledA (adr := [dw, dk, L + 1 + 1, L + 1, 305]) _ ((fL, _) :: (addc ++ tlX)) NL sub_lam (off_lam hOffX frc frf) ?_
    intro tlY hsY hsY' hOffY NY
    clear hsY' NL
    dsimp only [List.cons_append, List.nil_append] at NY
    have cF := hsY _ (.head _)
    have hTY : ∀ p ∈ tl, p ∈ tlY := fun p hp => hsY p (.tail _ (List.mem_append_right _ (hT p hp)))
    have hAC : ∀ p ∈ addc, p ∈ tlY := fun p hp => hsY p (.tail _ (List.mem_append_left _ hp))
    have hOY : ∀ p ∈ own, p ∈ tlY := fun p hp => hsY p (.tail _ (List.mem_append_right _ (hO p hp)))
    have hcY : (cL', oc9) ∈ tlY := (List.mem_append.mp hc9).elim (hAC _) (hTY _)
    have yE := hTY _ hE
    have yL := hTY _ hL
    have yle := hTY _ hle
    have yll := hTY _ hll
    have ysh := hTY _ hsh
    have ylv := hTY _ hlv
    (repeat' (first | (k_unfold; (try dsimp only)) | (walk_at "MINE stop"; walk1) | (dsimp only; walk_at "MINE stop"; walk1) | (dsimp only; k_unfold; (try dsimp only))))
    refine next_call (L9 := tl) (by k_asm) (by k_asm) (by k_asm) (by k_asm) rfl rfl (by k_asm) (fun p hp => (by have := hTY p hp; repeat (first | assumption | refine List.Mem.tail _ ?_))) (fun z hz b hb => by rw [List.mem_singleton.mp hb]; exact off_cons nn5.symm (off_cons (Nat.ne_of_lt o1) (off_cons (Nat.ne_of_lt (by omega)) (off_cons (Nat.ne_of_lt (by omega)) (fun p hp => hOffY p hp dw (.head _))))) z hz) nn1 nn2 nn3 nn4 lo how (by walk_at "MINE mem") hEs (fun d hd => (he d hd).isRow) (by omega) (by walk_at "MINE mem") hLs (fun d hd => (hl d hd).isRow) (by omega) (by walk_at "MINE mem") (by walk_at "MINE mem") hd9 hv9 (by walk_at "MINE mem") hoL (by walk_at "MINE mem") hlvD hl ?_ ?_
    · intro _ h1 tk1 wl2 ln2 t9 F1 fr1 N1
      (repeat' (first | (k_unfold; (try dsimp only)) | (walk_at "MINE stop"; walk1) | (dsimp only; walk_at "MINE stop"; walk1) | (dsimp only; k_unfold; (try dsimp only))))
      rename Fr g0 L _ _ => kF
      rename News g0 L _ _ => kN
      refine' hQ ⟨d, dkt, b, st, p, h, bt, stt, pt, ht, we, wl2, evs, [], en, ln2, es, ls, sh, shn, x1, x2, x3, x4, le, ll, les, lls, lem, llm, lv, lvv, lvn, ns, oL, oB, ps', (wl2, listOf ([] : List Value).toArray ln2) :: (addc ++ tl)⟩ _ _ _ ?ok kF ?nw
      case nw =>
        intro p hp
        refine kN p ?_
        revert p
        unfold led
        dsimp only [List.cons_append]
        iterate 10 (refine List.forall_mem_cons.mpr ⟨by walk_at "MINE mem", ?_⟩)
        exact fun z hz => (by have := (List.mem_append.mp hz).elim (fun h => (List.mem_append.mp h).elim (fun h => hAC z h) (fun h => hTY z h)) (fun h => hOY z h); repeat (first | assumption | refine List.Mem.tail _ ?_))
      case ok =>
        refine' V.ok.mk ?foff ?fd0 ?fd1 ?fhdl ?fhE ?fhEs ?fhEl ?fhL ?fhLs ?fhLl ?fhle ?fhles ?fhll ?fhlls ?fhsh ?fhlv ?fhlvD ?fn2 ?fn5 ?fnd ?fn0 ?fhb ?fhe ?fhl ?fhoL ?fhoB ?ftab ?fkm
        case foff => (try dsimp only); exact off_new (add := [(wl2, listOf ([] : List Value).toArray ln2)] ++ addc) (fr9_app (List.forall_mem_cons.mpr ⟨⟨fr1.1, fr1.2 _ (.head _), fr1.2 _ (.tail _ (.head _)), fr1.2 _ (.tail _ (.tail _ (.head _))), fr1.2 _ (.tail _ (.tail _ (.tail _ (.head _)))), fun z hz => fr1.2 z (.tail _ (.tail _ (.tail _ (.tail _ (hOY z hz)))))⟩, List.forall_mem_nil _⟩) (fr9_lam hO frc)) off
        case fd0 => (try dsimp only); omega
        case fd1 => (try dsimp only); omega
        case fhdl => (try dsimp only); exact (by have := List.mem_append_right addc (hdl); repeat (first | assumption | refine List.Mem.tail _ ?_))
        case fhE => (try dsimp only); exact (by have := List.mem_append_right addc (hE); repeat (first | assumption | refine List.Mem.tail _ ?_))
        case fhEs => (try dsimp only); exact DatAll.mono (fun p hp => (by have := List.mem_append_right addc (hp); repeat (first | assumption | refine List.Mem.tail _ ?_))) hEs
        case fhEl => (try dsimp only); omega
        case fhL => (try dsimp only); exact List.Mem.head _
        case fhLs => (try dsimp only); rw [hes]; exact .nil
        case fhLl => (try dsimp only); exact Nat.zero_le _
        case fhle => (try dsimp only); exact (by have := List.mem_append_right addc (hle); repeat (first | assumption | refine List.Mem.tail _ ?_))
        case fhles => (try dsimp only); exact DatAll.mono (fun p hp => (by have := List.mem_append_right addc (hp); repeat (first | assumption | refine List.Mem.tail _ ?_))) hles
        case fhll => (try dsimp only); exact (by have := List.mem_append_right addc (hll); repeat (first | assumption | refine List.Mem.tail _ ?_))
        case fhlls => (try dsimp only); exact DatAll.mono (fun p hp => (by have := List.mem_append_right addc (hp); repeat (first | assumption | refine List.Mem.tail _ ?_))) hlls
        case fhsh => (try dsimp only); exact (by have := List.mem_append_right addc (hsh); repeat (first | assumption | refine List.Mem.tail _ ?_))
        case fhlv => (try dsimp only); exact (by have := List.mem_append_right addc (hlv); repeat (first | assumption | refine List.Mem.tail _ ?_))
        case fhlvD => (try dsimp only); exact hlvD
        case fn2 => (try dsimp only); exact n2
        case fn5 => (try dsimp only); exact n5
        case fnd => (try dsimp only); exact nd
        case fn0 => (try dsimp only); exact n0
        case fhb => (try dsimp only); exact hb
        case fhe => (try dsimp only); exact he
        case fhl => (try dsimp only); exact hl
        case fhoL => (try dsimp only); exact hoL
        case fhoB => (try dsimp only); exact ⟨_, hoB0⟩
        case ftab => (try dsimp only); exact TabOk.mono tab' (fun p hp => (by repeat (first | assumption | refine List.Mem.tail _ ?_)))
        case fkm => (try dsimp only); unfold known; dsimp only; (iterate 6 (refine List.forall_mem_cons.mpr ⟨by rfl, ?_⟩)); exact List.forall_mem_nil _
    · intro ls0' nb2 ns2 np nh hes2
      rw [hes] at hes2
      exact absurd hes2.symm (by simp)
  · simp only [List.isEmpty_cons, Bool.not_false]
    have hr' : RowIn ns dd := hl dd (by rw [hes]; exact .head _)
    obtain ⟨a1, a2, a3, a4, rfl, ha1⟩ := hr'
    have hles' := hlls
    rw [hes] at hles'
    rcases lls with _ | ⟨v, vs⟩
    · cases hles'
    obtain ⟨ra, rn, y1, y2, y3, y4, rfl, rm⟩ := dat_row (show DatIn tl v (rowD a1 a2 a3 a4) by cases hles' with | cons hv hr => exact hv)
    have rmX := hT _ rm
    (repeat' (first | (k_unfold; (try dsimp only)) | (walk_at "MINE stop"; walk1) | (dsimp only; walk_at "MINE stop"; walk1) | (dsimp only; k_unfold; (try dsimp only))))
    refine item_at (by k_asm) (by walk_at "MINE mem") (by decide) (by decide) (by rfl) ?_
    (repeat' (first | (k_unfold; (try dsimp only)) | (walk_at "MINE stop"; walk1) | (dsimp only; walk_at "MINE stop"; walk1) | (dsimp only; k_unfold; (try dsimp only))))
    refine news_tail (by k_asm) ?_
    intro NC
    refine lam_eval (L9 := tl) (by k_asm) (by k_asm) (by k_asm) CH rfl (by k_updF) (fun z hz => (by have := hT z hz; repeat (first | assumption | refine List.Mem.tail _ ?_))) tab (by rfl) ?_
    intro fL cL' oc9 vs9 tt9 ctv9 ps' addc hL' tkL' FL NL tab' hc9 hd9 hv9 frc frf
    (try dsimp only at NL)
    refine re_ledA (adr := [dw, dk, L + 1 + 1, L + 1, 305]) _ ((fL, _) :: (addc ++ tlX)) NL sub_lam (off_lam hOffX frc frf) ?_
    intro tlY hsY hsY' hOffY NY
    clear hsY' NL
    dsimp only [List.cons_append, List.nil_append] at NY
    have cF := hsY _ (.head _)
    have hTY : ∀ p ∈ tl, p ∈ tlY := fun p hp => hsY p (.tail _ (List.mem_append_right _ (hT p hp)))
    have hAC : ∀ p ∈ addc, p ∈ tlY := fun p hp => hsY p (.tail _ (List.mem_append_left _ hp))
    have hOY : ∀ p ∈ own, p ∈ tlY := fun p hp => hsY p (.tail _ (List.mem_append_right _ (hO p hp)))
    have hcY : (cL', oc9) ∈ tlY := (List.mem_append.mp hc9).elim (hAC _) (hTY _)
    have yE := hTY _ hE
    have yL := hTY _ hL
    have yle := hTY _ hle
    have yll := hTY _ hll
    have ysh := hTY _ hsh
    have ylv := hTY _ hlv
    (repeat' (first | (k_unfold; (try dsimp only)) | (walk_at "MINE stop"; walk1) | (dsimp only; walk_at "MINE stop"; walk1) | (dsimp only; k_unfold; (try dsimp only))))
    refine next_call (L9 := tl) (by k_asm) (by k_asm) (by k_asm) (by k_asm) rfl rfl (by k_asm) (fun p hp => (by have := hTY p hp; repeat (first | assumption | refine List.Mem.tail _ ?_))) (fun z hz b hb => by rw [List.mem_singleton.mp hb]; exact off_cons nn5.symm (off_cons (Nat.ne_of_lt o1) (off_cons (Nat.ne_of_lt (by omega)) (off_cons (Nat.ne_of_lt (by omega)) (fun p hp => hOffY p hp dw (.head _))))) z hz) nn1 nn2 nn3 nn4 lo how (by walk_at "MINE mem") hEs (fun d hd => (he d hd).isRow) (by omega) (by walk_at "MINE mem") hLs (fun d hd => (hl d hd).isRow) (by omega) (by walk_at "MINE mem") (by walk_at "MINE mem") hd9 hv9 (by walk_at "MINE mem") hoL (by walk_at "MINE mem") hlvD hl ?_ ?_
    · intro hes2
      rw [hes] at hes2
      exact absurd hes2 (by simp)
    · intro ls0' nb2 ns2 np nh hes2 h1 tk1 add nbt nst npt nht t9 we2 wl2 evs2 lvs2 en2 ln2 F1 N1 fr1 mE2 hE2 lE2 mL2 hL2 lL2
      obtain ⟨q, _⟩ := List.cons.inj (hes.symm.trans hes2)
      obtain ⟨q1, q2, q3, q4⟩ := rowD_inj q
      subst nb2 ns2 np nh
      have rmY := hTY _ rm
      refine re_ledA (adr := [dw, dk, L + 1 + 1, L + 1, 305]) _ (add ++ tlY) N1 sub_add (off_add hOffY fr1) ?_
      intro tlZ hsZ hsZ' hOffZ NZ
      clear hsZ' N1
      dsimp only [List.cons_append, List.nil_append] at NZ
      have hTZ : ∀ p ∈ tl, p ∈ tlZ := fun p hp => hsZ p (List.mem_append_right _ (hTY p hp))
      have hOZ : ∀ p ∈ own, p ∈ tlZ := fun p hp => hsZ p (List.mem_append_right _ (hOY p hp))
      have hCZ : ∀ p ∈ addc, p ∈ tlZ := fun p hp => hsZ p (List.mem_append_right _ (hAC p hp))
      have hAZ : ∀ p ∈ add, p ∈ tlZ := fun p hp => hsZ p (List.mem_append_left _ hp)
      have zle := hTZ _ hle
      have zll := hTZ _ hll
      have zsh := hTZ _ hsh
      have zlv := hTZ _ hlv
      have rmZ := hTZ _ rm
      (repeat' (first | (k_unfold; (try dsimp only)) | (walk_at "MINE stop"; walk1) | (dsimp only; walk_at "MINE stop"; walk1) | (dsimp only; k_unfold; (try dsimp only))))
      · exact absurd rfl (by assumption : a1 ≠ a1)
      rotate_left 1
      · exact absurd (by assumption) (n0 a1 ha1)
      refine lawbut_call (by k_asm) (by k_asm) (by k_asm) (by k_asm) (by k_asm) rfl rfl (by k_room) (L9 := tl) (fun z hz => (by have := hTZ z hz; repeat (first | assumption | refine List.Mem.tail _ ?_))) (by walk_at "MINE mem") (hles) (fun d hd => (he d hd).isRow) (by omega) ?_
      intro D4 ys4 h4 tk4 hD4 hl4 F4 N4 off4
      (repeat' (first | (k_unfold; (try dsimp only)) | (walk_at "MINE stop"; walk1) | (dsimp only; walk_at "MINE stop"; walk1) | (dsimp only; k_unfold; (try dsimp only))))
      refine cat_rows (by k_asm) (by k_asm) (by walk_at "MINE mem") (by walk_at "MINE mem") (by simp only [List.length_cons, List.length_nil]; omega) ?_
      intro D5 hD5 FD5 ND5 ltD5
      have rawD5 := ltD5
      (try k_lt ltD5)
      (repeat' (first | (k_unfold; (try dsimp only)) | (walk_at "MINE stop"; walk1) | (dsimp only; walk_at "MINE stop"; walk1) | (dsimp only; k_unfold; (try dsimp only))))
      refine item_at (by k_asm) (by walk_at "MINE mem") (by decide) (by decide) (by rfl) ?_
      (repeat' (first | (k_unfold; (try dsimp only)) | (walk_at "MINE stop"; walk1) | (dsimp only; walk_at "MINE stop"; walk1) | (dsimp only; k_unfold; (try dsimp only))))
      refine lawbut_call (by k_asm) (by k_asm) (by k_asm) (by k_asm) (by k_asm) rfl rfl (by k_room) (L9 := tl) (fun z hz => (by have := hTZ z hz; repeat (first | assumption | refine List.Mem.tail _ ?_))) (by walk_at "MINE mem") (hlls) (fun d hd => (hl d hd).isRow) (by omega) ?_
      intro D6 ys6 h6 tk6 hD6 hl6 F6 N6 off6
      (repeat' (first | (k_unfold; (try dsimp only)) | (walk_at "MINE stop"; walk1) | (dsimp only; walk_at "MINE stop"; walk1) | (dsimp only; k_unfold; (try dsimp only))))
      refine kup_newTuple (by k_asm) (by k_asm) ?_ (Nat.le_of_ble_eq_true rfl)
      intro tg htg Ftg Ntg lttg
      have rawtg := lttg
      (try k_lt lttg)
      (repeat' (first | (k_unfold; (try dsimp only)) | (walk_at "MINE stop"; walk1) | (dsimp only; walk_at "MINE stop"; walk1) | (dsimp only; k_unfold; (try dsimp only))))
      rename Fr g0 L _ _ => kF
      rename News g0 L _ _ => kN
      refine' hQ ⟨d, dkt, a1, a2, a3, a4, nbt, nst, npt, nht, we2, wl2, evs2, lvs2, en2, ln2, (es.filter (rowNe b) ++ [rowD b st p h]), (ls.filter (rowNe a1)), ra, rn, _, _, _, _, D5, D6, (ys4 ++ [Value.ref sh]), ys6, 0, ys6.length, lv, lvv, lvn, ns, oL, oB, ps', (D6, LCg.lst ys6) :: (D5, listOf (ys4 ++ [Value.ref sh]).toArray 0) :: ((add ++ addc) ++ tl)⟩ _ _ _ ?ok kF ?nw
      case nw =>
        intro p hp
        refine kN p ?_
        revert p
        unfold led
        dsimp only [List.cons_append]
        iterate 11 (refine List.forall_mem_cons.mpr ⟨by walk_at "MINE mem", ?_⟩)
        exact fun z hz => (by have := (List.mem_append.mp hz).elim (fun h => (List.mem_append.mp h).elim (fun h => (List.mem_append.mp h).elim (fun h => hAZ z h) (fun h => hCZ z h)) (fun h => hTZ z h)) (fun h => hOZ z h); repeat (first | assumption | refine List.Mem.tail _ ?_))
      case ok =>
        refine' V.ok.mk ?foff ?fd0 ?fd1 ?fhdl ?fhE ?fhEs ?fhEl ?fhL ?fhLs ?fhLl ?fhle ?fhles ?fhll ?fhlls ?fhsh ?fhlv ?fhlvD ?fn2 ?fn5 ?fnd ?fn0 ?fhb ?fhe ?fhl ?fhoL ?fhoB ?ftab ?fkm
        case foff => (try dsimp only); exact off_new (add := [(D6, LCg.lst ys6), (D5, listOf (ys4 ++ [Value.ref sh]).toArray 0)] ++ (add ++ addc)) (fr9_app (List.forall_mem_cons.mpr ⟨⟨off1_mem off6 (dw, _) (by walk_at "MINE mem"), off1_mem off6 (dk, _) (by walk_at "MINE mem"), off1_mem off6 (L + 1 + 1, _) (by walk_at "MINE mem"), off1_mem off6 (L + 1, _) (by walk_at "MINE mem"), off1_mem off6 (305, _) (by walk_at "MINE mem"), (fun z hz => off1_mem off6 z (by have := hOZ z hz; repeat (first | assumption | refine List.Mem.tail _ ?_)))⟩, List.forall_mem_cons.mpr ⟨⟨Nat.ne_of_lt (rawD5 (dw, _) (by walk_at "MINE mem")), Nat.ne_of_lt (rawD5 (dk, _) (by walk_at "MINE mem")), Nat.ne_of_lt (rawD5 (L + 1 + 1, _) (by walk_at "MINE mem")), Nat.ne_of_lt (rawD5 (L + 1, _) (by walk_at "MINE mem")), Nat.ne_of_lt (rawD5 (305, _) (by walk_at "MINE mem")), (fun z hz => Nat.ne_of_lt (rawD5 z (by have := hOZ z hz; repeat (first | assumption | refine List.Mem.tail _ ?_))))⟩, List.forall_mem_nil _⟩⟩) (fr9_app (fr9_add hOY fr1) (fr9_lam hO frc))) off
        case fd0 => (try dsimp only); omega
        case fd1 => (try dsimp only); omega
        case fhdl => (try dsimp only); exact (by have := List.mem_append_right (add ++ addc) (hdl); repeat (first | assumption | refine List.Mem.tail _ ?_))
        case fhE => (try dsimp only); (have := List.mem_append_left tl (List.mem_append_left addc mE2); repeat (first | assumption | refine List.Mem.tail _ ?_))
        case fhEs => (try dsimp only); exact DatAll.mono (fun p hp => (by have := ((List.mem_append.mp hp).elim (fun h => List.mem_append_left tl (List.mem_append_left addc h)) (fun h => List.mem_append_right (add ++ addc) h)); repeat (first | assumption | refine List.Mem.tail _ ?_))) hE2
        case fhEl => (try dsimp only); omega
        case fhL => (try dsimp only); (have := List.mem_append_left tl (List.mem_append_left addc mL2); repeat (first | assumption | refine List.Mem.tail _ ?_))
        case fhLs => (try dsimp only); exact DatAll.mono (fun p hp => (by have := ((List.mem_append.mp hp).elim (fun h => List.mem_append_left tl (List.mem_append_left addc h)) (fun h => List.mem_append_right (add ++ addc) h)); repeat (first | assumption | refine List.Mem.tail _ ?_))) hL2
        case fhLl => (try dsimp only); omega
        case fhle => (try dsimp only); exact List.Mem.tail _ (List.Mem.head _)
        case fhles => (try dsimp only); exact DatAll.mono (fun p hp => (by have := List.mem_append_right (add ++ addc) hp; repeat (first | assumption | refine List.Mem.tail _ ?_))) (DatAll.append hD4 (DatAll.one (row_dat hsh)))
        case fhll => (try dsimp only); exact List.Mem.head _
        case fhlls => (try dsimp only); exact DatAll.mono (fun p hp => (by have := List.mem_append_right (add ++ addc) hp; repeat (first | assumption | refine List.Mem.tail _ ?_))) hD6
        case fhsh => (try dsimp only); (have := List.mem_append_right (add ++ addc) rm; repeat (first | assumption | refine List.Mem.tail _ ?_))
        case fhlv => (try dsimp only); exact (by have := List.mem_append_right (add ++ addc) (hlv); repeat (first | assumption | refine List.Mem.tail _ ?_))
        case fhlvD => (try dsimp only); exact hlvD
        case fn2 => (try dsimp only); exact n2
        case fn5 => (try dsimp only); exact n5
        case fnd => (try dsimp only); exact nd
        case fn0 => (try dsimp only); exact n0
        case fhb => (try dsimp only); exact ha1
        case fhe => (try dsimp only); exact rowIn_snoc (rowIn_filter he) hb
        case fhl => (try dsimp only); exact rowIn_filter hl
        case fhoL => (try dsimp only); exact hoL
        case fhoB => (try dsimp only); exact ⟨_, hoB0⟩
        case ftab => (try dsimp only); exact TabOk.mono tab' (fun p hp => (by have := ((List.mem_append.mp hp).elim (fun h => List.mem_append_left tl (List.mem_append_right add h)) (fun h => List.mem_append_right (add ++ addc) h)); repeat (first | assumption | refine List.Mem.tail _ ?_)))
        case fkm => (try dsimp only); unfold known; dsimp only; (iterate 6 (refine List.forall_mem_cons.mpr ⟨by rfl, ?_⟩)); exact List.forall_mem_nil _

theorem way5 {w : World} {base g0 : Heap} {mg mb : Str → Option Value} {mean : ExcName → Option Value} {loose : List Str} {C : Co} {v : V} {own : List (Addr × Obj)} {i : Nat} {m : Str → Option Value} {s : Shared} {E : Value → Shared → Prop} {Q : Flow → Shared → Prop} {fa : Addr} {S : Scope} {bd : List Stmt}
    (hS : S = lawS) (hbd : bd = ifO ch4) (B : Below callerA base [] g0) (F : Fr g0 C.L s.heap m) (X : (Mine.hd.heap_1 w.params).In g0) (T : Top topProg loose mean mg mb g0) (CH : CodeHd g0 307 305)
    (N : News g0 C.L s.heap (led w C v ++ own)) (hC : C.ok w) (hv : v.ok C own i m) (hown : OwnOff own (adr9 C)) (hi : i ≤ 30)
    {nb : Int} {nt : Tok} (hoB : v.oB.data = .cell (some (.int nb nt))) (hnb : nb ∈ v.ns)
    (hQ : ∀ v' m' h' tk, V.ok C own v' (i + 1) m' → Fr g0 C.L h' m' → News g0 C.L h' (led w C v' ++ own) → Q .next { s with heap := h', toks := tk }) :
    wpAny (model Challenge.rw_np0058_01.row.prog w) (callerA.deeper (envOfC "law" S C.L fa (.ref 307))) (execs bd (envOfC "law" S C.L fa (.ref 307))) Q E s := by
  have hPR : PySem.Challenge.rw_np0058_01 = PySem.Challenge.rw_np0058_01 ∧ Mine.hd.heap_1 = Mine.hd.heap_1 := by
    k_fill
    exact ⟨rfl, rfl⟩
  have hKd := kdMark
  conv at hS => rhs; whnf
  conv at hbd => rhs; whnf
  subst hS hbd
  obtain ⟨k0, k1, k2, k3, k4, k5, k6, k7, k8, k9, k10, k11, k12, k13, k14, k15, t0, t1, t2, t4, t5, t6, t7, t13, j0, j1, j2, j3, j4, j5, j6, u1, u2, u3, u4, u5, u6, ch, dws, dw, xw, dt, xt, dk, dl, L, ow, dn, ys, zs⟩ := C
  obtain ⟨d, dkt, b, st, p, h, bt, stt, pt, ht, we, wl, evs, lvs, en, ln, es, ls, sh, shn, x1, x2, x3, x4, le, ll, les, lls, lem, llm, lv, lvv, lvn, ns, oL, oB, ps, tl⟩ := v
  obtain ⟨off, d0, d1, hdl, hE, hEs, hEl, hL, hLs, hLl, hle, hles, hll, hlls, hsh, hlv, hlvD, n2, n5, nd, n0, hb, he, hl, hoL, hoBx, tab, km⟩ := hv
  obtain ⟨lo, how, nn1, nn2, nn3, nn4, nn5, mm1, mm2, mm3, mm4, mm5, o0, o1, o2, o3, o4, o5, o6, hI, hz⟩ := hC
  dsimp only at *
  have F0 := fr_known _ km F
  have eKm := kst_eqm km
  dsimp only [known, kstB] at F0 eKm
  unfold led at N
  dsimp only [List.cons_append] at N
  refine re_ledA (adr := [dw, dk, L + 1 + 1, L + 1, 305]) [(dw, _), (xw, _), (dt, _), (xt, _), (dws, _), (dk, _), (L + 1 + 1, _), (L + 1, _), (305, _)] (tl ++ own) N (fun _ h => h) (off_app off hown) ?_
  intro tlX hsX hsX' hOffX NX
  clear N F
  dsimp only [List.cons_append, List.nil_append] at NX
  have hT : ∀ p ∈ tl, p ∈ tlX := fun p hp => hsX p (List.mem_append_left _ hp)
  have hO : ∀ p ∈ own, p ∈ tlX := fun p hp => hsX p (List.mem_append_right _ hp)
  have gdl := hT _ hdl
  have gE := hT _ hE
  have gL := hT _ hL
  have gle := hT _ hle
  have gll := hT _ hll
  have gsh := hT _ hsh
  have glv := hT _ hlv
  obtain ⟨bx, hoB0⟩ := hoBx
  have ql1 := hEs.length
  have ql2 := hles.length
  have ql3 := hLs.length
  have ql4 := hlls.length
  have ql5 := hlvD.length
  rw [List.length_map] at ql5
  (repeat' (first | (k_unfold; (try dsimp only)) | (walk_at "MINE stop"; walk1) | (dsimp only; walk_at "MINE stop"; walk1) | (dsimp only; k_unfold; (try dsimp only))))
  refine len_led (k := (ns.length : Int)) (by k_asm) (by walk_at "MINE mem") (by omega) (by omega) ?_
  (repeat' (first | (k_unfold; (try dsimp only)) | (walk_at "MINE stop"; walk1) | (dsimp only; walk_at "MINE stop"; walk1) | (dsimp only; k_unfold; (try dsimp only))))
  rotate_left 1
  · skip
    rename Fr g0 L _ _ => kF
    rename News g0 L _ _ => kN
    refine' hQ ⟨d, dkt, b, st, p, h, bt, stt, pt, ht, we, wl, evs, lvs, en, ln, es, ls, sh, shn, x1, x2, x3, x4, le, ll, les, lls, lem, llm, lv, lvv, lvn, ns, oL, oB, ps, tl⟩ _ _ _ ?ok kF ?nw
    case nw =>
      intro p hp
      refine kN p ?_
      revert p
      unfold led
      dsimp only [List.cons_append]
      iterate 9 (refine List.forall_mem_cons.mpr ⟨by walk_at "MINE mem", ?_⟩)
      exact fun z hz => (by have := hsX z hz; repeat (first | assumption | refine List.Mem.tail _ ?_))
    case ok =>
      refine' V.ok.mk ?foff ?fd0 ?fd1 ?fhdl ?fhE ?fhEs ?fhEl ?fhL ?fhLs ?fhLl ?fhle ?fhles ?fhll ?fhlls ?fhsh ?fhlv ?fhlvD ?fn2 ?fn5 ?fnd ?fn0 ?fhb ?fhe ?fhl ?fhoL ?fhoB ?ftab ?fkm
      case foff => (try dsimp only); exact off_new (add := []) (List.forall_mem_nil _) off
      case fd0 => (try dsimp only); omega
      case fd1 => (try dsimp only); omega
      case fhdl => (try dsimp only); exact (by have := hdl; repeat (first | assumption | refine List.Mem.tail _ ?_))
      case fhE => (try dsimp only); exact (by have := hE; repeat (first | assumption | refine List.Mem.tail _ ?_))
      case fhEs => (try dsimp only); exact DatAll.mono (fun p hp => (by have := hp; repeat (first | assumption | refine List.Mem.tail _ ?_))) hEs
      case fhEl => (try dsimp only); omega
      case fhL => (try dsimp only); exact (by have := hL; repeat (first | assumption | refine List.Mem.tail _ ?_))
      case fhLs => (try dsimp only); exact DatAll.mono (fun p hp => (by have := hp; repeat (first | assumption | refine List.Mem.tail _ ?_))) hLs
      case fhLl => (try dsimp only); omega
      case fhle => (try dsimp only); exact (by have := hle; repeat (first | assumption | refine List.Mem.tail _ ?_))
      case fhles => (try dsimp only); exact DatAll.mono (fun p hp => (by have := hp; repeat (first | assumption | refine List.Mem.tail _ ?_))) hles
      case fhll => (try dsimp only); exact (by have := hll; repeat (first | assumption | refine List.Mem.tail _ ?_))
      case fhlls => (try dsimp only); exact DatAll.mono (fun p hp => (by have := hp; repeat (first | assumption | refine List.Mem.tail _ ?_))) hlls
      case fhsh => (try dsimp only); exact (by have := hsh; repeat (first | assumption | refine List.Mem.tail _ ?_))
      case fhlv => (try dsimp only); exact (by have := hlv; repeat (first | assumption | refine List.Mem.tail _ ?_))
      case fhlvD => (try dsimp only); exact hlvD
      case fn2 => (try dsimp only); exact n2
      case fn5 => (try dsimp only); exact n5
      case fnd => (try dsimp only); exact nd
      case fn0 => (try dsimp only); exact n0
      case fhb => (try dsimp only); exact hb
      case fhe => (try dsimp only); exact he
      case fhl => (try dsimp only); exact hl
      case fhoL => (try dsimp only); exact hoL
      case fhoB => (try dsimp only); exact ⟨_, hoB0⟩
      case ftab => (try dsimp only); exact TabOk.mono tab (fun p hp => (by have := hp; repeat (first | assumption | refine List.Mem.tail _ ?_)))
      case fkm => (try dsimp only); unfold known; dsimp only; (iterate 6 (refine List.forall_mem_cons.mpr ⟨by rfl, ?_⟩)); exact List.forall_mem_nil _
  have hlt : 2 < ns.length := by omega
  walk1
  (repeat' (first | (k_unfold; (try dsimp only)) | (walk_at "MINE stop"; walk1) | (dsimp only; walk_at "MINE stop"; walk1) | (dsimp only; k_unfold; (try dsimp only))))
  ((refine LCt.ListComp_T (F₀ := by k_asm) (by with_unfolding_all rfl) (by decide) (by rfl) (by decide) (by rfl) ?_))
  (repeat' (first | (k_unfold; (try dsimp only)) | (walk_at "MINE stop"; walk1) | (dsimp only; walk_at "MINE stop"; walk1) | (dsimp only; k_unfold; (try dsimp only))))
  (refine LCt.CompSrcT.ledger (by rfl) (by k_asm) (by k_asm) (by walk_at "MINE mem") (by rw [List.size_toArray, PySem.sizeLine_eq]; omega) ?_)
  intro g9
  refine Mine.filt_rest (L9 := []) (datNe nb) hlvD (.inr ⟨_, by walk_at "MINE mem", rfl, _, rfl⟩) (by rfl) (by rfl) (by decide) ?_ ?_
  · intro v d I oI C oC D m₂ ys h tk E' hd hv hC hx F N off ne
    obtain ⟨na, hna, rfl⟩ := List.mem_map.mp hd
    cases hv
    simp only [LCg.Off3] at off
    (repeat' (first | (k_unfold; (try dsimp only)) | (walk_at "MINE stop"; walk1) | (dsimp only; walk_at "MINE stop"; walk1) | (dsimp only; k_unfold; (try dsimp only))))
    all_goals exact TestEnd.intro (by simp only [datNe]; by_cases h : na = nb <;> simp [h]) (by k_asm) (by k_asm) fun _ h => h
  · intro ys9 hys9 hys9l
    intro Dg h9 tk F9 N9 off9
    rw [datNe_filter] at hys9
    have nl := filter_len (b := nb) nd
    rcases hN : ns.filter (fun a => decide (a ≠ nb)) with _ | ⟨o, nr⟩
    · rw [hN] at nl
      simp only [List.length_nil] at nl
      omega
    rw [hN] at hys9 nl
    rcases ys9 with _ | ⟨v9, vt9⟩
    · cases hys9
    obtain ⟨tv9, rfl⟩ : ∃ t, v9 = .int o t := by
      cases hys9 with
      | cons hv hr => cases hv; exact ⟨_, rfl⟩
    have oD1 : @Ne Nat dw Dg := off1_mem off9 (dw, _) (by walk_at "MINE mem")
    have oD2 : @Ne Nat dk Dg := off1_mem off9 (dk, _) (by walk_at "MINE mem")
    have oD3 : @Ne Nat (L + 1 + 1) Dg := off1_mem off9 (L + 1 + 1, _) (by walk_at "MINE mem")
    have oD4 : @Ne Nat (L + 1) Dg := off1_mem off9 (L + 1, _) (by walk_at "MINE mem")
    have oD5 : @Ne Nat 305 Dg := off1_mem off9 (305, _) (by walk_at "MINE mem")
    (repeat' (first | (k_unfold; (try dsimp only)) | (walk_at "MINE stop"; walk1) | (dsimp only; walk_at "MINE stop"; walk1) | (dsimp only; k_unfold; (try dsimp only))))
    rename Obj => oL9
    rename _ = Data.cell (some (Value.ref Dg)) => hoL9
    refine re_ledA (adr := [dw, dk, L + 1 + 1, L + 1, 305]) [(dw, _), (xw, _), (dt, _), (xt, _), (dws, _), (dk, _), (L + 1 + 1, _), (L + 1, _), (305, _)] ((Dg, LCg.lst (Value.int o tv9 :: vt9)) :: tlX) (by k_asm) sub_mv (own_cons5 oD1 oD2 oD3 oD4 oD5 hOffX) ?_
    have hT0 := hT
    have hO0 := hO
    intro tlX hsX hsX' hOffX NX
    clear hsX'
    dsimp only [List.cons_append, List.nil_append] at NX
    have hT : ∀ p ∈ tl, p ∈ tlX := fun p hp => hsX p (.tail _ (hT0 p hp))
    have hO : ∀ p ∈ own, p ∈ tlX := fun p hp => hsX p (.tail _ (hO0 p hp))
    have cDX := hsX _ (.head _)
    have nl2 : (o :: nr).length ≤ ns.length := by rw [← hN]; exact List.length_filter_le _ _
    simp only [List.length_cons] at nl nl2
    refine lam_eval (L9 := tl) (by k_asm) (by k_asm) (by k_asm) CH rfl (by k_updF) (fun z hz => (by have := hT z hz; repeat (first | assumption | refine List.Mem.tail _ ?_))) tab (by rfl) ?_
    intro fL cL' oc9 vs9 tt9 ctv9 ps' addc hL' tkL' FL NL tab' hc9 hd9 hv9 frc frf
    (try dsimp only at NL)
    refine re_ledA (adr := [dw, dk, L + 1 + 1, L + 1, 305]) _ ((fL, _) :: (addc ++ tlX)) NL sub_lam (off_lam hOffX frc frf) ?_
    intro tlY hsY hsY' hOffY NY
    clear hsY' NL
    dsimp only [List.cons_append, List.nil_append] at NY
    have cF := hsY _ (.head _)
    have hTY : ∀ p ∈ tl, p ∈ tlY := fun p hp => hsY p (.tail _ (List.mem_append_right _ (hT p hp)))
    have hAC : ∀ p ∈ addc, p ∈ tlY := fun p hp => hsY p (.tail _ (List.mem_append_left _ hp))
    have hOY : ∀ p ∈ own, p ∈ tlY := fun p hp => hsY p (.tail _ (List.mem_append_right _ (hO p hp)))
    have hcY : (cL', oc9) ∈ tlY := (List.mem_append.mp hc9).elim (hAC _) (hTY _)
    have yE := hTY _ hE
    have yL := hTY _ hL
    have yle := hTY _ hle
    have yll := hTY _ hll
    have ysh := hTY _ hsh
    have ylv := hTY _ hlv
    (repeat' (first | (k_unfold; (try dsimp only)) | (walk_at "MINE stop"; walk1) | (dsimp only; walk_at "MINE stop"; walk1) | (dsimp only; k_unfold; (try dsimp only))))
    have cDY := hsY _ (.tail _ (List.mem_append_right _ cDX))
    refine item_at (by k_asm) (by walk_at "MINE mem") (by decide) (by decide) (by rfl) ?_
    (repeat' (first | (k_unfold; (try dsimp only)) | (walk_at "MINE stop"; walk1) | (dsimp only; walk_at "MINE stop"; walk1) | (dsimp only; k_unfold; (try dsimp only))))
    refine replace_call (L9 := tl) (by k_asm) (by k_asm) (by k_asm) (by k_asm) rfl rfl (by k_asm) (fun p hp => (by have := hTY p hp; repeat (first | assumption | refine List.Mem.tail _ ?_))) (fun z hz b hb => by rw [List.mem_singleton.mp hb]; exact off_cons nn5.symm (off_cons (Nat.ne_of_lt o1) (off_cons (Nat.ne_of_lt (by omega)) (off_cons (Nat.ne_of_lt (by omega)) (fun p hp => hOffY p hp dw (.head _))))) z hz) nn1 nn2 nn3 nn4 lo how (by walk_at "MINE mem") hEs (fun d hd => (he d hd).isRow) (by omega) (by walk_at "MINE mem") hLs (fun d hd => (hl d hd).isRow) (by omega) (by walk_at "MINE mem") (by walk_at "MINE mem") hd9 hv9 (by walk_at "MINE mem") hoL9 (by walk_at "MINE mem") hys9 (rowIn_kill hN he) ?_
    intro h1 tk1 add nb2 ns2 np nh nbt nst npt nht we2 wl2 evs2 lvs2 en2 ln2 hrow F1 N1 fr1 mE2 hE2 lE2 mL2 hL2 lL2
    refine re_ledA (adr := [dw, dk, L + 1 + 1, L + 1, 305]) _ (add ++ tlY) N1 sub_add (off_add hOffY fr1) ?_
    intro tlZ hsZ hsZ' hOffZ NZ
    clear hsZ' N1
    dsimp only [List.cons_append, List.nil_append] at NZ
    have hTZ : ∀ p ∈ tl, p ∈ tlZ := fun p hp => hsZ p (List.mem_append_right _ (hTY p hp))
    have hOZ : ∀ p ∈ own, p ∈ tlZ := fun p hp => hsZ p (List.mem_append_right _ (hOY p hp))
    have hCZ : ∀ p ∈ addc, p ∈ tlZ := fun p hp => hsZ p (List.mem_append_right _ (hAC p hp))
    have hAZ : ∀ p ∈ add, p ∈ tlZ := fun p hp => hsZ p (List.mem_append_left _ hp)
    have zle := hTZ _ hle
    have zll := hTZ _ hll
    have zsh := hTZ _ hsh
    have zlv := hTZ _ hlv
    have cDZ := hsZ _ (List.mem_append_right _ cDY)
    (repeat' (first | (k_unfold; (try dsimp only)) | (walk_at "MINE stop"; walk1) | (dsimp only; walk_at "MINE stop"; walk1) | (dsimp only; k_unfold; (try dsimp only))))
    refine lawbut_call (by k_asm) (by k_asm) (by k_asm) (by k_asm) (by k_asm) rfl rfl (by k_room) (L9 := tl) (fun z hz => (by have := hTZ z hz; repeat (first | assumption | refine List.Mem.tail _ ?_))) (by walk_at "MINE mem") (hles) (fun d hd => (he d hd).isRow) (by omega) ?_
    intro D4 ys4 h4 tk4 hD4 hl4 F4 N4 off4
    (repeat' (first | (k_unfold; (try dsimp only)) | (walk_at "MINE stop"; walk1) | (dsimp only; walk_at "MINE stop"; walk1) | (dsimp only; k_unfold; (try dsimp only))))
    refine lawbut_call (by k_asm) (by k_asm) (by k_asm) (by k_asm) (by k_asm) rfl rfl (by k_room) (L9 := tl) (fun z hz => (by have := hTZ z hz; repeat (first | assumption | refine List.Mem.tail _ ?_))) (by walk_at "MINE mem") (hlls) (fun d hd => (hl d hd).isRow) (by omega) ?_
    intro D6 ys6 h6 tk6 hD6 hl6 F6 N6 off6
    (repeat' (first | (k_unfold; (try dsimp only)) | (walk_at "MINE stop"; walk1) | (dsimp only; walk_at "MINE stop"; walk1) | (dsimp only; k_unfold; (try dsimp only))))
    refine kup_newTuple (by k_asm) (by k_asm) ?_ (Nat.le_of_ble_eq_true rfl)
    intro tg htg Ftg Ntg lttg
    have rawtg := lttg
    (try k_lt lttg)
    (repeat' (first | (k_unfold; (try dsimp only)) | (walk_at "MINE stop"; walk1) | (dsimp only; walk_at "MINE stop"; walk1) | (dsimp only; k_unfold; (try dsimp only))))
    rotate_left 1
    · have hne : b ≠ nb := by assumption
      have hbb : (b == nb) = false := by simpa using hne
      replace hE2 : DatAll (add ++ tl) evs2 (es.filter (rowNe nb)) := by simpa [killE, hbb] using hE2
      replace hrow : rowD nb2 ns2 np nh = rowD b st p h := by simpa only [killRow, hbb, Bool.false_eq_true, if_false] using hrow
      obtain ⟨q1, q2, q3, q4⟩ := rowD_inj hrow
      subst nb2 ns2 np nh
      rename Fr g0 L _ _ => kF
      rename News g0 L _ _ => kN
      refine' hQ ⟨d, dkt, b, st, p, h, nbt, nst, npt, nht, we2, wl2, evs2, lvs2, en2, ln2, (es.filter (rowNe nb)), (ls.filter (rowNe nb)), sh, shn, x1, x2, x3, x4, D4, D6, ys4, ys6, ys4.length, ys6.length, Dg, (Value.int o tv9 :: vt9), (Value.int o tv9 :: vt9).length, (o :: nr), oL9, oB, ps', (D4, LCg.lst ys4) :: (D6, LCg.lst ys6) :: (Dg, LCg.lst (Value.int o tv9 :: vt9)) :: ((add ++ addc) ++ tl)⟩ _ _ _ ?ok kF ?nw
      case nw =>
        intro p hp
        refine kN p ?_
        revert p
        unfold led
        dsimp only [List.cons_append]
        iterate 12 (refine List.forall_mem_cons.mpr ⟨by walk_at "MINE mem", ?_⟩)
        exact fun z hz => (by have := (List.mem_append.mp hz).elim (fun h => (List.mem_append.mp h).elim (fun h => (List.mem_append.mp h).elim (fun h => hAZ z h) (fun h => hCZ z h)) (fun h => hTZ z h)) (fun h => hOZ z h); repeat (first | assumption | refine List.Mem.tail _ ?_))
      case ok =>
        refine' V.ok.mk ?foff ?fd0 ?fd1 ?fhdl ?fhE ?fhEs ?fhEl ?fhL ?fhLs ?fhLl ?fhle ?fhles ?fhll ?fhlls ?fhsh ?fhlv ?fhlvD ?fn2 ?fn5 ?fnd ?fn0 ?fhb ?fhe ?fhl ?fhoL ?fhoB ?ftab ?fkm
        case foff => (try dsimp only); exact off_new (add := [(D4, LCg.lst ys4), (D6, LCg.lst ys6), (Dg, LCg.lst (Value.int o tv9 :: vt9))] ++ (add ++ addc)) (fr9_app (List.forall_mem_cons.mpr ⟨⟨off1_mem off4 (dw, _) (by walk_at "MINE mem"), off1_mem off4 (dk, _) (by walk_at "MINE mem"), off1_mem off4 (L + 1 + 1, _) (by walk_at "MINE mem"), off1_mem off4 (L + 1, _) (by walk_at "MINE mem"), off1_mem off4 (305, _) (by walk_at "MINE mem"), (fun z hz => off1_mem off4 z (by have := hOZ z hz; repeat (first | assumption | refine List.Mem.tail _ ?_)))⟩, List.forall_mem_cons.mpr ⟨⟨off1_mem off6 (dw, _) (by walk_at "MINE mem"), off1_mem off6 (dk, _) (by walk_at "MINE mem"), off1_mem off6 (L + 1 + 1, _) (by walk_at "MINE mem"), off1_mem off6 (L + 1, _) (by walk_at "MINE mem"), off1_mem off6 (305, _) (by walk_at "MINE mem"), (fun z hz => off1_mem off6 z (by have := hOZ z hz; repeat (first | assumption | refine List.Mem.tail _ ?_)))⟩, List.forall_mem_cons.mpr ⟨⟨oD1, oD2, oD3, oD4, oD5, fun z hz => off1_mem off9 z (by have := hO0 z hz; repeat (first | assumption | refine List.Mem.tail _ ?_))⟩, List.forall_mem_nil _⟩⟩⟩) (fr9_app (fr9_add hOY fr1) (fr9_lam hO frc))) off
        case fd0 => (try dsimp only); omega
        case fd1 => (try dsimp only); omega
        case fhdl => (try dsimp only); exact (by have := List.mem_append_right (add ++ addc) (hdl); repeat (first | assumption | refine List.Mem.tail _ ?_))
        case fhE => (try dsimp only); (have := List.mem_append_left tl (List.mem_append_left addc mE2); repeat (first | assumption | refine List.Mem.tail _ ?_))
        case fhEs => (try dsimp only); exact DatAll.mono (fun p hp => (by have := ((List.mem_append.mp hp).elim (fun h => List.mem_append_left tl (List.mem_append_left addc h)) (fun h => List.mem_append_right (add ++ addc) h)); repeat (first | assumption | refine List.Mem.tail _ ?_))) hE2
        case fhEl => (try dsimp only); omega
        case fhL => (try dsimp only); (have := List.mem_append_left tl (List.mem_append_left addc mL2); repeat (first | assumption | refine List.Mem.tail _ ?_))
        case fhLs => (try dsimp only); exact DatAll.mono (fun p hp => (by have := ((List.mem_append.mp hp).elim (fun h => List.mem_append_left tl (List.mem_append_left addc h)) (fun h => List.mem_append_right (add ++ addc) h)); repeat (first | assumption | refine List.Mem.tail _ ?_))) hL2
        case fhLl => (try dsimp only); omega
        case fhle => (try dsimp only); exact List.Mem.head _
        case fhles => (try dsimp only); exact DatAll.mono (fun p hp => (by have := List.mem_append_right (add ++ addc) hp; repeat (first | assumption | refine List.Mem.tail _ ?_))) hD4
        case fhll => (try dsimp only); exact List.Mem.tail _ (List.Mem.head _)
        case fhlls => (try dsimp only); exact DatAll.mono (fun p hp => (by have := List.mem_append_right (add ++ addc) hp; repeat (first | assumption | refine List.Mem.tail _ ?_))) hD6
        case fhsh => (try dsimp only); (have := List.mem_append_right (add ++ addc) hsh; repeat (first | assumption | refine List.Mem.tail _ ?_))
        case fhlv => (try dsimp only); exact List.Mem.tail _ (List.Mem.tail _ (List.Mem.head _))
        case fhlvD => (try dsimp only); exact hys9
        case fn2 => (try dsimp only); simp only [List.length_cons]; omega
        case fn5 => (try dsimp only); simp only [List.length_cons]; omega
        case fnd => (try dsimp only); rw [← hN]; exact nd.filter _
        case fn0 => (try dsimp only); intro n hn; rw [← hN] at hn; exact n0 n (List.mem_filter.mp hn).1
        case fhb => (try dsimp only); rw [← hN]; exact List.mem_filter.mpr ⟨hb, by simpa using hne⟩
        case fhe => (try dsimp only); exact rowIn_kill hN he
        case fhl => (try dsimp only); exact rowIn_kill hN hl
        case fhoL => (try dsimp only); exact hoL9
        case fhoB => (try dsimp only); exact ⟨_, hoB0⟩
        case ftab => (try dsimp only); exact TabOk.mono tab' (fun p hp => (by have := ((List.mem_append.mp hp).elim (fun h => List.mem_append_left tl (List.mem_append_right add h)) (fun h => List.mem_append_right (add ++ addc) h)); repeat (first | assumption | refine List.Mem.tail _ ?_)))
        case fkm => (try dsimp only); unfold known; dsimp only; (iterate 6 (refine List.forall_mem_cons.mpr ⟨by rfl, ?_⟩)); exact List.forall_mem_nil _
    · have hbb : (b == nb) = true := by simpa using (by assumption : b = nb)
      replace hE2 : DatAll (add ++ tl) evs2 (es.filter (rowNe nb)).dropLast := by simpa only [killE, hbb, if_true] using hE2
      replace hrow : rowD nb2 ns2 np nh = (es.filter (rowNe nb)).getLastD (rowD o 1 1 0) := by simpa only [killRow, hbb, if_true] using hrow
      refine ne_nil (by k_asm) (by walk_at "MINE mem") (by walk_at "MINE mem") hD4 (fun z hz => (by have := hTZ z hz; repeat (first | assumption | refine List.Mem.tail _ ?_))) (rows_filter (fun d hd => (he d hd).isRow)) (Nat.le_of_ble_eq_true rfl) ?_
      rcases List.eq_nil_or_concat (es.filter (rowNe nb)) with hF | ⟨es0, dd, hF⟩
      · rw [hF] at hD4 hE2 hrow
        cases hD4
        rw [hF]
        simp only [List.isEmpty_nil, Bool.not_true]
        (repeat' (first | (k_unfold; (try dsimp only)) | (walk_at "MINE stop"; walk1) | (dsimp only; walk_at "MINE stop"; walk1) | (dsimp only; k_unfold; (try dsimp only))))
        refine item_at (by k_asm) (by walk_at "MINE mem") (by decide) (by decide) (by rfl) ?_
        (repeat' (first | (k_unfold; (try dsimp only)) | (walk_at "MINE stop"; walk1) | (dsimp only; walk_at "MINE stop"; walk1) | (dsimp only; k_unfold; (try dsimp only))))
        refine kup_newTuple (by k_asm) (by k_asm) ?_ (Nat.le_of_ble_eq_true rfl)
        intro tq htq Ftq Ntq lttq
        have rawtq := lttq
        (try k_lt lttq)
        (repeat' (first | (k_unfold; (try dsimp only)) | (walk_at "MINE stop"; walk1) | (dsimp only; walk_at "MINE stop"; walk1) | (dsimp only; k_unfold; (try dsimp only))))
        refine' kmk_slice_lit (zs := []) ?slF ?slN ?sll ?slp ?slq ?sle ?_ ?sls ?slt ?slz
        case slF => k_asm
        case slN => k_asm
        case sll => exact News.isList (by k_asm) (by walk_at "MINE mem")
        case slp => exact IsPart.none
        case slq => exact IsPart.int _ _
        case sle => exact pick_nil
        case sls => with_unfolding_all rfl
        case slt => kmk_pure
        case slz => first | (simp only [List.size_toArray, List.length_append, List.length_cons, List.length_nil, PySem.sizeLine_eq] at *; omega)
        intro De hDe FDe NDe ltDe
        have rawDe := ltDe
        (try k_lt ltDe)
        (repeat' (first | (k_unfold; (try dsimp only)) | (walk_at "MINE stop"; walk1) | (dsimp only; walk_at "MINE stop"; walk1) | (dsimp only; k_unfold; (try dsimp only))))
        obtain ⟨q1, q2, q3, q4⟩ := rowD_inj (hrow.trans rfl : rowD nb2 ns2 np nh = rowD o 1 1 0)
        subst nb2 ns2 np nh
        rename Fr g0 L _ _ => kF
        rename News g0 L _ _ => kN
        refine' hQ ⟨d, dkt, o, 1, 1, 0, nbt, nst, npt, nht, we2, wl2, evs2, lvs2, en2, ln2, [], (ls.filter (rowNe nb)), tq, 0, _, _, _, _, De, D6, [], ys6, 0, ys6.length, Dg, (Value.int o tv9 :: vt9), (Value.int o tv9 :: vt9).length, (o :: nr), oL9, oB, ps', (De, listOf ([] : List Value).toArray 0) :: (D6, LCg.lst ys6) :: (Dg, LCg.lst (Value.int o tv9 :: vt9)) :: (tq, tupObj [Value.int o _, Value.int 1 _, Value.int 1 _, Value.int 0 _] 0) :: ((add ++ addc) ++ tl)⟩ _ _ _ ?ok kF ?nw
        case nw =>
          intro p hp
          refine kN p ?_
          revert p
          unfold led
          dsimp only [List.cons_append]
          iterate 13 (refine List.forall_mem_cons.mpr ⟨by walk_at "MINE mem", ?_⟩)
          exact fun z hz => (by have := (List.mem_append.mp hz).elim (fun h => (List.mem_append.mp h).elim (fun h => (List.mem_append.mp h).elim (fun h => hAZ z h) (fun h => hCZ z h)) (fun h => hTZ z h)) (fun h => hOZ z h); repeat (first | assumption | refine List.Mem.tail _ ?_))
        case ok =>
          refine' V.ok.mk ?foff ?fd0 ?fd1 ?fhdl ?fhE ?fhEs ?fhEl ?fhL ?fhLs ?fhLl ?fhle ?fhles ?fhll ?fhlls ?fhsh ?fhlv ?fhlvD ?fn2 ?fn5 ?fnd ?fn0 ?fhb ?fhe ?fhl ?fhoL ?fhoB ?ftab ?fkm
          case foff => (try dsimp only); exact off_new (add := [(De, listOf ([] : List Value).toArray 0), (D6, LCg.lst ys6), (Dg, LCg.lst (Value.int o tv9 :: vt9)), (tq, tupObj [Value.int o _, Value.int 1 _, Value.int 1 _, Value.int 0 _] 0)] ++ (add ++ addc)) (fr9_app (List.forall_mem_cons.mpr ⟨⟨Nat.ne_of_lt (rawDe (dw, _) (by walk_at "MINE mem")), Nat.ne_of_lt (rawDe (dk, _) (by walk_at "MINE mem")), Nat.ne_of_lt (rawDe (L + 1 + 1, _) (by walk_at "MINE mem")), Nat.ne_of_lt (rawDe (L + 1, _) (by walk_at "MINE mem")), Nat.ne_of_lt (rawDe (305, _) (by walk_at "MINE mem")), (fun z hz => Nat.ne_of_lt (rawDe z (by have := hOZ z hz; repeat (first | assumption | refine List.Mem.tail _ ?_))))⟩, List.forall_mem_cons.mpr ⟨⟨off1_mem off6 (dw, _) (by walk_at "MINE mem"), off1_mem off6 (dk, _) (by walk_at "MINE mem"), off1_mem off6 (L + 1 + 1, _) (by walk_at "MINE mem"), off1_mem off6 (L + 1, _) (by walk_at "MINE mem"), off1_mem off6 (305, _) (by walk_at "MINE mem"), (fun z hz => off1_mem off6 z (by have := hOZ z hz; repeat (first | assumption | refine List.Mem.tail _ ?_)))⟩, List.forall_mem_cons.mpr ⟨⟨oD1, oD2, oD3, oD4, oD5, fun z hz => off1_mem off9 z (by have := hO0 z hz; repeat (first | assumption | refine List.Mem.tail _ ?_))⟩, List.forall_mem_cons.mpr ⟨⟨Nat.ne_of_lt (rawtq (dw, _) (by walk_at "MINE mem")), Nat.ne_of_lt (rawtq (dk, _) (by walk_at "MINE mem")), Nat.ne_of_lt (rawtq (L + 1 + 1, _) (by walk_at "MINE mem")), Nat.ne_of_lt (rawtq (L + 1, _) (by walk_at "MINE mem")), Nat.ne_of_lt (rawtq (305, _) (by walk_at "MINE mem")), (fun z hz => Nat.ne_of_lt (rawtq z (by have := hOZ z hz; repeat (first | assumption | refine List.Mem.tail _ ?_))))⟩, List.forall_mem_nil _⟩⟩⟩⟩) (fr9_app (fr9_add hOY fr1) (fr9_lam hO frc))) off
          case fd0 => (try dsimp only); omega
          case fd1 => (try dsimp only); omega
          case fhdl => (try dsimp only); exact (by have := List.mem_append_right (add ++ addc) (hdl); repeat (first | assumption | refine List.Mem.tail _ ?_))
          case fhE => (try dsimp only); (have := List.mem_append_left tl (List.mem_append_left addc mE2); repeat (first | assumption | refine List.Mem.tail _ ?_))
          case fhEs => (try dsimp only); exact DatAll.mono (fun p hp => (by have := ((List.mem_append.mp hp).elim (fun h => List.mem_append_left tl (List.mem_append_left addc h)) (fun h => List.mem_append_right (add ++ addc) h)); repeat (first | assumption | refine List.Mem.tail _ ?_))) hE2
          case fhEl => (try dsimp only); omega
          case fhL => (try dsimp only); (have := List.mem_append_left tl (List.mem_append_left addc mL2); repeat (first | assumption | refine List.Mem.tail _ ?_))
          case fhLs => (try dsimp only); exact DatAll.mono (fun p hp => (by have := ((List.mem_append.mp hp).elim (fun h => List.mem_append_left tl (List.mem_append_left addc h)) (fun h => List.mem_append_right (add ++ addc) h)); repeat (first | assumption | refine List.Mem.tail _ ?_))) hL2
          case fhLl => (try dsimp only); omega
          case fhle => (try dsimp only); exact List.Mem.head _
          case fhles => (try dsimp only); exact .nil
          case fhll => (try dsimp only); exact List.Mem.tail _ (List.Mem.head _)
          case fhlls => (try dsimp only); exact DatAll.mono (fun p hp => (by have := List.mem_append_right (add ++ addc) hp; repeat (first | assumption | refine List.Mem.tail _ ?_))) hD6
          case fhsh => (try dsimp only); refine List.Mem.tail _ ?_; refine List.Mem.tail _ ?_; refine List.Mem.tail _ ?_; exact List.Mem.head _
          case fhlv => (try dsimp only); exact List.Mem.tail _ (List.Mem.tail _ (List.Mem.head _))
          case fhlvD => (try dsimp only); exact hys9
          case fn2 => (try dsimp only); simp only [List.length_cons]; omega
          case fn5 => (try dsimp only); simp only [List.length_cons]; omega
          case fnd => (try dsimp only); rw [← hN]; exact nd.filter _
          case fn0 => (try dsimp only); intro n hn; rw [← hN] at hn; exact n0 n (List.mem_filter.mp hn).1
          case fhb => (try dsimp only); exact List.Mem.head _
          case fhe => (try dsimp only); exact fun _ h => nomatch h
          case fhl => (try dsimp only); exact rowIn_kill hN hl
          case fhoL => (try dsimp only); exact hoL9
          case fhoB => (try dsimp only); exact ⟨_, hoB0⟩
          case ftab => (try dsimp only); exact TabOk.mono tab' (fun p hp => (by have := ((List.mem_append.mp hp).elim (fun h => List.mem_append_left tl (List.mem_append_right add h)) (fun h => List.mem_append_right (add ++ addc) h)); repeat (first | assumption | refine List.Mem.tail _ ?_)))
          case fkm => (try dsimp only); unfold known; dsimp only; (iterate 6 (refine List.forall_mem_cons.mpr ⟨by rfl, ?_⟩)); exact List.forall_mem_nil _
      · rw [List.concat_eq_append] at hF
        have hr' : RowIn (o :: nr) dd := rowIn_kill hN he dd (by rw [hF]; exact List.mem_append.mpr (.inr (.head _)))
        obtain ⟨a1, a2, a3, a4, rfl, ha1⟩ := hr'
        rw [hF] at hD4 hE2 hrow
        obtain ⟨vs, v, rfl, hv0, hv⟩ := datall_concat hD4
        obtain ⟨ra, rn, y1, y2, y3, y4, rfl, rm⟩ := dat_row hv
        have rmZ := hTZ _ rm
        have ee : (es.filter (rowNe nb)).isEmpty = false := by rw [hF]; simp
        rw [ee]
        simp only [Bool.not_false]
        (repeat' (first | (k_unfold; (try dsimp only)) | (walk_at "MINE stop"; walk1) | (dsimp only; walk_at "MINE stop"; walk1) | (dsimp only; k_unfold; (try dsimp only))))
        refine item_last (by k_asm) (by walk_at "MINE mem") ?_
        (repeat' (first | (k_unfold; (try dsimp only)) | (walk_at "MINE stop"; walk1) | (dsimp only; walk_at "MINE stop"; walk1) | (dsimp only; k_unfold; (try dsimp only))))
        refine' kmk_slice_lit (zs := vs) ?slF ?slN ?sll ?slp ?slq ?sle ?_ ?sls ?slt ?slz
        case slF => k_asm
        case slN => k_asm
        case sll => exact News.isList (by k_asm) (by walk_at "MINE mem")
        case slp => exact IsPart.none
        case slq => exact IsPart.int _ _
        case sle => exact pick_last
        case sls => with_unfolding_all rfl
        case slt => kmk_pure
        case slz => first | (simp only [List.size_toArray, List.length_append, List.length_cons, List.length_nil, PySem.sizeLine_eq] at *; omega)
        intro De hDe FDe NDe ltDe
        have rawDe := ltDe
        (try k_lt ltDe)
        (repeat' (first | (k_unfold; (try dsimp only)) | (walk_at "MINE stop"; walk1) | (dsimp only; walk_at "MINE stop"; walk1) | (dsimp only; k_unfold; (try dsimp only))))
        obtain ⟨q1, q2, q3, q4⟩ := rowD_inj (hrow.trans List.getLastD_concat : rowD nb2 ns2 np nh = rowD a1 a2 a3 a4)
        subst nb2 ns2 np nh
        rw [List.dropLast_concat] at hE2
        rename Fr g0 L _ _ => kF
        rename News g0 L _ _ => kN
        refine' hQ ⟨d, dkt, a1, a2, a3, a4, nbt, nst, npt, nht, we2, wl2, evs2, lvs2, en2, ln2, es0, (ls.filter (rowNe nb)), ra, rn, _, _, _, _, De, D6, vs, ys6, 0, ys6.length, Dg, (Value.int o tv9 :: vt9), (Value.int o tv9 :: vt9).length, (o :: nr), oL9, oB, ps', (De, listOf vs.toArray 0) :: (D6, LCg.lst ys6) :: (Dg, LCg.lst (Value.int o tv9 :: vt9)) :: ((add ++ addc) ++ tl)⟩ _ _ _ ?ok kF ?nw
        case nw =>
          intro p hp
          refine kN p ?_
          revert p
          unfold led
          dsimp only [List.cons_append]
          iterate 12 (refine List.forall_mem_cons.mpr ⟨by walk_at "MINE mem", ?_⟩)
          exact fun z hz => (by have := (List.mem_append.mp hz).elim (fun h => (List.mem_append.mp h).elim (fun h => (List.mem_append.mp h).elim (fun h => hAZ z h) (fun h => hCZ z h)) (fun h => hTZ z h)) (fun h => hOZ z h); repeat (first | assumption | refine List.Mem.tail _ ?_))
        case ok =>
          refine' V.ok.mk ?foff ?fd0 ?fd1 ?fhdl ?fhE ?fhEs ?fhEl ?fhL ?fhLs ?fhLl ?fhle ?fhles ?fhll ?fhlls ?fhsh ?fhlv ?fhlvD ?fn2 ?fn5 ?fnd ?fn0 ?fhb ?fhe ?fhl ?fhoL ?fhoB ?ftab ?fkm
          case foff => (try dsimp only); exact off_new (add := [(De, listOf vs.toArray 0), (D6, LCg.lst ys6), (Dg, LCg.lst (Value.int o tv9 :: vt9))] ++ (add ++ addc)) (fr9_app (List.forall_mem_cons.mpr ⟨⟨Nat.ne_of_lt (rawDe (dw, _) (by walk_at "MINE mem")), Nat.ne_of_lt (rawDe (dk, _) (by walk_at "MINE mem")), Nat.ne_of_lt (rawDe (L + 1 + 1, _) (by walk_at "MINE mem")), Nat.ne_of_lt (rawDe (L + 1, _) (by walk_at "MINE mem")), Nat.ne_of_lt (rawDe (305, _) (by walk_at "MINE mem")), (fun z hz => Nat.ne_of_lt (rawDe z (by have := hOZ z hz; repeat (first | assumption | refine List.Mem.tail _ ?_))))⟩, List.forall_mem_cons.mpr ⟨⟨off1_mem off6 (dw, _) (by walk_at "MINE mem"), off1_mem off6 (dk, _) (by walk_at "MINE mem"), off1_mem off6 (L + 1 + 1, _) (by walk_at "MINE mem"), off1_mem off6 (L + 1, _) (by walk_at "MINE mem"), off1_mem off6 (305, _) (by walk_at "MINE mem"), (fun z hz => off1_mem off6 z (by have := hOZ z hz; repeat (first | assumption | refine List.Mem.tail _ ?_)))⟩, List.forall_mem_cons.mpr ⟨⟨oD1, oD2, oD3, oD4, oD5, fun z hz => off1_mem off9 z (by have := hO0 z hz; repeat (first | assumption | refine List.Mem.tail _ ?_))⟩, List.forall_mem_nil _⟩⟩⟩) (fr9_app (fr9_add hOY fr1) (fr9_lam hO frc))) off
          case fd0 => (try dsimp only); omega
          case fd1 => (try dsimp only); omega
          case fhdl => (try dsimp only); exact (by have := List.mem_append_right (add ++ addc) (hdl); repeat (first | assumption | refine List.Mem.tail _ ?_))
          case fhE => (try dsimp only); (have := List.mem_append_left tl (List.mem_append_left addc mE2); repeat (first | assumption | refine List.Mem.tail _ ?_))
          case fhEs => (try dsimp only); exact DatAll.mono (fun p hp => (by have := ((List.mem_append.mp hp).elim (fun h => List.mem_append_left tl (List.mem_append_left addc h)) (fun h => List.mem_append_right (add ++ addc) h)); repeat (first | assumption | refine List.Mem.tail _ ?_))) hE2
          case fhEl => (try dsimp only); omega
          case fhL => (try dsimp only); (have := List.mem_append_left tl (List.mem_append_left addc mL2); repeat (first | assumption | refine List.Mem.tail _ ?_))
          case fhLs => (try dsimp only); exact DatAll.mono (fun p hp => (by have := ((List.mem_append.mp hp).elim (fun h => List.mem_append_left tl (List.mem_append_left addc h)) (fun h => List.mem_append_right (add ++ addc) h)); repeat (first | assumption | refine List.Mem.tail _ ?_))) hL2
          case fhLl => (try dsimp only); omega
          case fhle => (try dsimp only); exact List.Mem.head _
          case fhles => (try dsimp only); exact DatAll.mono (fun p hp => (by have := List.mem_append_right (add ++ addc) hp; repeat (first | assumption | refine List.Mem.tail _ ?_))) hv0
          case fhll => (try dsimp only); exact List.Mem.tail _ (List.Mem.head _)
          case fhlls => (try dsimp only); exact DatAll.mono (fun p hp => (by have := List.mem_append_right (add ++ addc) hp; repeat (first | assumption | refine List.Mem.tail _ ?_))) hD6
          case fhsh => (try dsimp only); (have := List.mem_append_right (add ++ addc) rm; repeat (first | assumption | refine List.Mem.tail _ ?_))
          case fhlv => (try dsimp only); exact List.Mem.tail _ (List.Mem.tail _ (List.Mem.head _))
          case fhlvD => (try dsimp only); exact hys9
          case fn2 => (try dsimp only); simp only [List.length_cons]; omega
          case fn5 => (try dsimp only); simp only [List.length_cons]; omega
          case fnd => (try dsimp only); rw [← hN]; exact nd.filter _
          case fn0 => (try dsimp only); intro n hn; rw [← hN] at hn; exact n0 n (List.mem_filter.mp hn).1
          case fhb => (try dsimp only); exact ha1
          case fhe => (try dsimp only); intro d hd; exact rowIn_kill hN he d (by rw [hF]; exact List.mem_append.mpr (.inl hd))
          case fhl => (try dsimp only); exact rowIn_kill hN hl
          case fhoL => (try dsimp only); exact hoL9
          case fhoB => (try dsimp only); exact ⟨_, hoB0⟩
          case ftab => (try dsimp only); exact TabOk.mono tab' (fun p hp => (by have := ((List.mem_append.mp hp).elim (fun h => List.mem_append_left tl (List.mem_append_right add h)) (fun h => List.mem_append_right (add ++ addc) h)); repeat (first | assumption | refine List.Mem.tail _ ?_)))
          case fkm => (try dsimp only); unfold known; dsimp only; (iterate 6 (refine List.forall_mem_cons.mpr ⟨by rfl, ?_⟩)); exact List.forall_mem_nil _

theorem chain_walk {w : World} {base g0 : Heap} {mg mb : Str → Option Value} {mean : ExcName → Option Value} {loose : List Str} {C : Co} {v : V} {own : List (Addr × Obj)} {i : Nat} {m : Str → Option Value} {s : Shared} {E : Value → Shared → Prop} {Q : Flow → Shared → Prop} {fa : Addr} {S : Scope} {bd : List Stmt}
    (hS : S = lawS) (hbd : bd = lapB.drop 1) (B : Below callerA base [] g0) (F : Fr g0 C.L s.heap m) (X : (Mine.hd.heap_1 w.params).In g0) (T : Top topProg loose mean mg mb g0) (CH : CodeHd g0 307 305)
    (N : News g0 C.L s.heap (led w C v ++ own)) (hC : C.ok w) (hv : v.ok C own i m) (hown : OwnOff own (adr9 C)) (hi : i ≤ 30)
    {nb : Int} {nt : Tok} (hoB : v.oB.data = .cell (some (.int nb nt))) (hnb : nb ∈ v.ns) {r : Int} {tr : Tok} (hw : m "way" = some (.int r tr)) (hi2 : i ≤ 28)
    (hQ : ∀ v' m' h' tk, V.ok C own v' (i + 1) m' → Fr g0 C.L h' m' → News g0 C.L h' (led w C v' ++ own) → Q .next { s with heap := h', toks := tk }) :
    wpAny (model Challenge.rw_np0058_01.row.prog w) (callerA.deeper (envOfC "law" S C.L fa (.ref 307))) (execs bd (envOfC "law" S C.L fa (.ref 307))) Q E s := by
  have hPR : PySem.Challenge.rw_np0058_01 = PySem.Challenge.rw_np0058_01 ∧ Mine.hd.heap_1 = Mine.hd.heap_1 := by
    k_fill
    exact ⟨rfl, rfl⟩
  have hKd := kdMark
  conv at hS => rhs; whnf
  conv at hbd => rhs; whnf
  subst hS hbd
  have F0 := fr_known [(Str.ofString "way", Value.int r tr)] (List.forall_mem_cons.mpr ⟨hw, List.forall_mem_nil _⟩) F
  dsimp only [kstB] at F0
  ((repeat (first | (k_unfold; (try dsimp only)) | ((with_reducible show wpAny _ _ (execs _ _) _ _ _); walk1) | (dsimp only; (with_reducible show wpAny _ _ (execs _ _) _ _ _); walk1))))
  (repeat' (first | (k_unfold; (try dsimp only)) | ((fail_if_success (with_reducible show wpAny _ _ (execs (_ :: _) _) _ _ _)); walk_at "MINE stop"; walk1) | (dsimp only; (fail_if_success (with_reducible show wpAny _ _ (execs (_ :: _) _) _ _ _)); walk_at "MINE stop"; walk1)))
  · refine way0 (v := v) (by rfl) (by rfl) B F X T CH N hC hv hown (by omega) hoB hnb ?_
    intro v' m' h' tk ok' F' N'
    (try dsimp only)
    ((repeat (first | (k_unfold; (try dsimp only)) | ((with_reducible show wpAny _ _ (execs _ _) _ _ _); walk1) | (dsimp only; (with_reducible show wpAny _ _ (execs _ _) _ _ _); walk1))))
    refine check_walk (s := { s with heap := h', toks := tk }) (v := v') (by rfl) (by rfl) B F' X T CH N' hC ok' hown (by omega) ?_
    intro h2 tk2 F2 N2
    (try dsimp only)
    (repeat' (first | (k_unfold; (try dsimp only)) | ((fail_if_success (with_reducible show wpAny _ _ (execs (_ :: _) _) _ _ _)); walk_at "MINE stop"; walk1) | (dsimp only; (fail_if_success (with_reducible show wpAny _ _ (execs (_ :: _) _) _ _ _)); walk_at "MINE stop"; walk1)))
    exact hQ v' m' h2 _ ok' F2 N2
  ((repeat (first | (k_unfold; (try dsimp only)) | ((with_reducible show wpAny _ _ (execs _ _) _ _ _); walk1) | (dsimp only; (with_reducible show wpAny _ _ (execs _ _) _ _ _); walk1))))
  (repeat' (first | (k_unfold; (try dsimp only)) | ((fail_if_success (with_reducible show wpAny _ _ (execs (_ :: _) _) _ _ _)); walk_at "MINE stop"; walk1) | (dsimp only; (fail_if_success (with_reducible show wpAny _ _ (execs (_ :: _) _) _ _ _)); walk_at "MINE stop"; walk1)))
  · refine way2 (v := v) (by rfl) (by rfl) B F X T CH N hC hv hown (by omega)  ?_
    intro v' m' h' tk ok' F' N'
    (try dsimp only)
    ((repeat (first | (k_unfold; (try dsimp only)) | ((with_reducible show wpAny _ _ (execs _ _) _ _ _); walk1) | (dsimp only; (with_reducible show wpAny _ _ (execs _ _) _ _ _); walk1))))
    refine check_walk (s := { s with heap := h', toks := tk }) (v := v') (by rfl) (by rfl) B F' X T CH N' hC ok' hown (by omega) ?_
    intro h2 tk2 F2 N2
    (try dsimp only)
    (repeat' (first | (k_unfold; (try dsimp only)) | ((fail_if_success (with_reducible show wpAny _ _ (execs (_ :: _) _) _ _ _)); walk_at "MINE stop"; walk1) | (dsimp only; (fail_if_success (with_reducible show wpAny _ _ (execs (_ :: _) _) _ _ _)); walk_at "MINE stop"; walk1)))
    exact hQ v' m' h2 _ ok' F2 N2
  ((repeat (first | (k_unfold; (try dsimp only)) | ((with_reducible show wpAny _ _ (execs _ _) _ _ _); walk1) | (dsimp only; (with_reducible show wpAny _ _ (execs _ _) _ _ _); walk1))))
  (repeat' (first | (k_unfold; (try dsimp only)) | ((fail_if_success (with_reducible show wpAny _ _ (execs (_ :: _) _) _ _ _)); walk_at "MINE stop"; walk1) | (dsimp only; (fail_if_success (with_reducible show wpAny _ _ (execs (_ :: _) _) _ _ _)); walk_at "MINE stop"; walk1)))
  · refine way3 (v := v) (by rfl) (by rfl) B F X T CH N hC hv hown (by omega)  ?_
    intro v' m' h' tk ok' F' N'
    (try dsimp only)
    ((repeat (first | (k_unfold; (try dsimp only)) | ((with_reducible show wpAny _ _ (execs _ _) _ _ _); walk1) | (dsimp only; (with_reducible show wpAny _ _ (execs _ _) _ _ _); walk1))))
    refine check_walk (s := { s with heap := h', toks := tk }) (v := v') (by rfl) (by rfl) B F' X T CH N' hC ok' hown (by omega) ?_
    intro h2 tk2 F2 N2
    (try dsimp only)
    (repeat' (first | (k_unfold; (try dsimp only)) | ((fail_if_success (with_reducible show wpAny _ _ (execs (_ :: _) _) _ _ _)); walk_at "MINE stop"; walk1) | (dsimp only; (fail_if_success (with_reducible show wpAny _ _ (execs (_ :: _) _) _ _ _)); walk_at "MINE stop"; walk1)))
    exact hQ v' m' h2 _ ok' F2 N2
  ((repeat (first | (k_unfold; (try dsimp only)) | ((with_reducible show wpAny _ _ (execs _ _) _ _ _); walk1) | (dsimp only; (with_reducible show wpAny _ _ (execs _ _) _ _ _); walk1))))
  (repeat' (first | (k_unfold; (try dsimp only)) | ((fail_if_success (with_reducible show wpAny _ _ (execs (_ :: _) _) _ _ _)); walk_at "MINE stop"; walk1) | (dsimp only; (fail_if_success (with_reducible show wpAny _ _ (execs (_ :: _) _) _ _ _)); walk_at "MINE stop"; walk1)))
  · refine way4 (v := v) (by rfl) (by rfl) B F X T CH N hC hv hown (by omega)  ?_
    intro v' m' h' tk ok' F' N'
    (try dsimp only)
    ((repeat (first | (k_unfold; (try dsimp only)) | ((with_reducible show wpAny _ _ (execs _ _) _ _ _); walk1) | (dsimp only; (with_reducible show wpAny _ _ (execs _ _) _ _ _); walk1))))
    refine check_walk (s := { s with heap := h', toks := tk }) (v := v') (by rfl) (by rfl) B F' X T CH N' hC ok' hown (by omega) ?_
    intro h2 tk2 F2 N2
    (try dsimp only)
    (repeat' (first | (k_unfold; (try dsimp only)) | ((fail_if_success (with_reducible show wpAny _ _ (execs (_ :: _) _) _ _ _)); walk_at "MINE stop"; walk1) | (dsimp only; (fail_if_success (with_reducible show wpAny _ _ (execs (_ :: _) _) _ _ _)); walk_at "MINE stop"; walk1)))
    exact hQ v' m' h2 _ ok' F2 N2
  · refine way5 (v := v) (by rfl) (by rfl) B F X T CH N hC hv hown (by omega) hoB hnb ?_
    intro v' m' h' tk ok' F' N'
    (try dsimp only)
    ((repeat (first | (k_unfold; (try dsimp only)) | ((with_reducible show wpAny _ _ (execs _ _) _ _ _); walk1) | (dsimp only; (with_reducible show wpAny _ _ (execs _ _) _ _ _); walk1))))
    refine check_walk (s := { s with heap := h', toks := tk }) (v := v') (by rfl) (by rfl) B F' X T CH N' hC ok' hown (by omega) ?_
    intro h2 tk2 F2 N2
    (try dsimp only)
    (repeat' (first | (k_unfold; (try dsimp only)) | ((fail_if_success (with_reducible show wpAny _ _ (execs (_ :: _) _) _ _ _)); walk_at "MINE stop"; walk1) | (dsimp only; (fail_if_success (with_reducible show wpAny _ _ (execs (_ :: _) _) _ _ _)); walk_at "MINE stop"; walk1)))
    exact hQ v' m' h2 _ ok' F2 N2

theorem turn_walk {w : World} {base g0 : Heap} {mg mb : Str → Option Value} {mean : ExcName → Option Value} {loose : List Str} {C : Co} {v : V} {own : List (Addr × Obj)} {i : Nat} {m : Str → Option Value} {s : Shared} {E : Value → Shared → Prop} {Q : Flow → Shared → Prop} {fa : Addr} {S : Scope} {bd : List Stmt}
    (hS : S = lawS) (hbd : bd = lapB) (B : Below callerA base [] g0) (F : Fr g0 C.L s.heap m) (X : (Mine.hd.heap_1 w.params).In g0) (T : Top topProg loose mean mg mb g0) (CH : CodeHd g0 307 305)
    (N : News g0 C.L s.heap (led w C v ++ own)) (hC : C.ok w) (hv : v.ok C own i m) (hown : OwnOff own (adr9 C)) (hi : i ≤ 30)
    (hi2 : i ≤ 26)
    (hQ : ∀ v' m' h' tk, V.ok C own v' (i + 1 + 1) m' → Fr g0 C.L h' m' → News g0 C.L h' (led w C v' ++ own) → Q .next { s with heap := h', toks := tk }) :
    wpAny (model Challenge.rw_np0058_01.row.prog w) (callerA.deeper (envOfC "law" S C.L fa (.ref 307))) (execs bd (envOfC "law" S C.L fa (.ref 307))) Q E s := by
  have hPR : PySem.Challenge.rw_np0058_01 = PySem.Challenge.rw_np0058_01 ∧ Mine.hd.heap_1 = Mine.hd.heap_1 := by
    k_fill
    exact ⟨rfl, rfl⟩
  have hKd := kdMark
  conv at hS => rhs; whnf
  conv at hbd => rhs; whnf
  subst hS hbd
  have hC0 := hC
  have hown0 := hown
  obtain ⟨k0, k1, k2, k3, k4, k5, k6, k7, k8, k9, k10, k11, k12, k13, k14, k15, t0, t1, t2, t4, t5, t6, t7, t13, j0, j1, j2, j3, j4, j5, j6, u1, u2, u3, u4, u5, u6, ch, dws, dw, xw, dt, xt, dk, dl, L, ow, dn, ys, zs⟩ := C
  obtain ⟨d, dkt, b, st, p, h, bt, stt, pt, ht, we, wl, evs, lvs, en, ln, es, ls, sh, shn, x1, x2, x3, x4, le, ll, les, lls, lem, llm, lv, lvv, lvn, ns, oL, oB, ps, tl⟩ := v
  obtain ⟨off, d0, d1, hdl, hE, hEs, hEl, hL, hLs, hLl, hle, hles, hll, hlls, hsh, hlv, hlvD, n2, n5, nd, n0, hb, he, hl, hoL, hoBx, tab, km⟩ := hv
  obtain ⟨lo, how, nn1, nn2, nn3, nn4, nn5, mm1, mm2, mm3, mm4, mm5, o0, o1, o2, o3, o4, o5, o6, hI, hz⟩ := hC
  dsimp only at *
  have F0 := fr_known _ km F
  have eKm := kst_eqm km
  dsimp only [known, kstB] at F0 eKm
  unfold led at N
  dsimp only [List.cons_append] at N
  refine re_ledA (adr := [dw, dk, L + 1 + 1, L + 1, 305]) [(dw, _), (xw, _), (dt, _), (xt, _), (dws, _), (dk, _), (L + 1 + 1, _), (L + 1, _), (305, _)] (tl ++ own) N (fun _ h => h) (off_app off hown) ?_
  intro tlX hsX hsX' hOffX NX
  clear N F
  dsimp only [List.cons_append, List.nil_append] at NX
  have hT : ∀ p ∈ tl, p ∈ tlX := fun p hp => hsX p (List.mem_append_left _ hp)
  have hO : ∀ p ∈ own, p ∈ tlX := fun p hp => hsX p (List.mem_append_right _ hp)
  have gdl := hT _ hdl
  have gE := hT _ hE
  have gL := hT _ hL
  have gle := hT _ hle
  have gll := hT _ hll
  have gsh := hT _ hsh
  have glv := hT _ hlv
  obtain ⟨bx, hoB0⟩ := hoBx
  have ql1 := hEs.length
  have ql2 := hles.length
  have ql3 := hLs.length
  have ql4 := hlls.length
  ((repeat (first | (k_unfold; (try dsimp only)) | ((with_reducible show wpAny _ _ (execs _ _) _ _ _); walk1) | (dsimp only; (with_reducible show wpAny _ _ (execs _ _) _ _ _); walk1))))
  (repeat' (first | (k_unfold; (try dsimp only)) | ((fail_if_success (with_reducible show wpAny _ _ (execs (_ :: _) _) _ _ _)); walk_at "MINE stop"; walk1) | (dsimp only; (fail_if_success (with_reducible show wpAny _ _ (execs (_ :: _) _) _ _ _)); walk_at "MINE stop"; walk1)))
  refine draw_led (by k_asm) (by k_asm) (by k_asm) (by k_asm) (by k_asm) rfl rfl (by k_room) (by k_updF) (by walk_at "MINE mem") mm5 hI hz (by omega) (by omega) (by omega) (by omega) ?_
  intro ra tra tkra hra tkkra ra0 ra1 Fra Nra
  (try dsimp only at Nra)
  (repeat' (first | (k_unfold; (try dsimp only)) | ((fail_if_success (with_reducible show wpAny _ _ (execs (_ :: _) _) _ _ _)); walk_at "MINE stop"; walk1) | (dsimp only; (fail_if_success (with_reducible show wpAny _ _ (execs (_ :: _) _) _ _ _)); walk_at "MINE stop"; walk1)))
  refine len_led (k := (ns.length : Int)) (by k_asm) (by walk_at "MINE mem") (by have := hlvD.length; rw [List.length_map] at this; omega) (by omega) ?_
  (repeat' (first | (k_unfold; (try dsimp only)) | ((fail_if_success (with_reducible show wpAny _ _ (execs (_ :: _) _) _ _ _)); walk_at "MINE stop"; walk1) | (dsimp only; (fail_if_success (with_reducible show wpAny _ _ (execs (_ :: _) _) _ _ _)); walk_at "MINE stop"; walk1)))
  refine draw_led (by k_asm) (by k_asm) (by k_asm) (by k_asm) (by k_asm) rfl rfl (by k_room) (by k_updF) (by walk_at "MINE mem") mm5 hI hz (by omega) (by omega) (by omega) (by omega) ?_
  intro rb trb tkrb hrb tkkrb rb0 rb1 Frb Nrb
  (try dsimp only at Nrb)
  (repeat' (first | (k_unfold; (try dsimp only)) | ((fail_if_success (with_reducible show wpAny _ _ (execs (_ :: _) _) _ _ _)); walk_at "MINE stop"; walk1) | (dsimp only; (fail_if_success (with_reducible show wpAny _ _ (execs (_ :: _) _) _ _ _)); walk_at "MINE stop"; walk1)))
  obtain ⟨nb, nt, hx9, hnb⟩ := live_get hlvD (k := rb.toNat) (by omega)
  refine item_at (by k_asm) (by walk_at "MINE mem") rb0 (by omega) hx9 ?_
  (repeat' (first | (k_unfold; (try dsimp only)) | ((fail_if_success (with_reducible show wpAny _ _ (execs (_ :: _) _) _ _ _)); walk_at "MINE stop"; walk1) | (dsimp only; (fail_if_success (with_reducible show wpAny _ _ (execs (_ :: _) _) _ _ _)); walk_at "MINE stop"; walk1)))
  refine kup_newTuple (by k_asm) (by k_asm) ?_ (Nat.le_of_ble_eq_true rfl)
  intro tw htw Ftw Ntw lttw
  have rawtw := lttw
  (try k_lt lttw)
  (repeat' (first | (k_unfold; (try dsimp only)) | ((fail_if_success (with_reducible show wpAny _ _ (execs (_ :: _) _) _ _ _)); walk_at "MINE stop"; walk1) | (dsimp only; (fail_if_success (with_reducible show wpAny _ _ (execs (_ :: _) _) _ _ _)); walk_at "MINE stop"; walk1)))
  rename Obj => oB9
  rename _ = Data.cell (some (Value.int nb nt)) => hoB9
  rename Fr g0 L _ _ => kF
  rename News g0 L _ _ => kN
  refine' chain_walk (v := ⟨d + 1 + 1, tkrb, b, st, p, h, bt, stt, pt, ht, we, wl, evs, lvs, en, ln, es, ls, sh, shn, x1, x2, x3, x4, le, ll, les, lls, lem, llm, lv, lvv, lvn, ns, oL, oB9, ps, tl⟩) (i := i + 1) (by rfl) (by rfl) B kF X T CH ?nw hC0 ?ok hown0 (by omega) hoB9 hnb (by rfl) (by omega) ?hq
  case nw =>
    intro p hp
    refine kN p ?_
    revert p
    unfold led
    dsimp only [List.cons_append]
    iterate 9 (refine List.forall_mem_cons.mpr ⟨by walk_at "MINE mem", ?_⟩)
    exact fun z hz => (by have := hsX z hz; repeat (first | assumption | refine List.Mem.tail _ ?_))
  case ok =>
    refine' V.ok.mk ?foff ?fd0 ?fd1 ?fhdl ?fhE ?fhEs ?fhEl ?fhL ?fhLs ?fhLl ?fhle ?fhles ?fhll ?fhlls ?fhsh ?fhlv ?fhlvD ?fn2 ?fn5 ?fnd ?fn0 ?fhb ?fhe ?fhl ?fhoL ?fhoB ?ftab ?fkm
    case foff => (try dsimp only); exact off
    case fd0 => (try dsimp only); omega
    case fd1 => (try dsimp only); omega
    case fhdl => (try dsimp only); exact hdl
    case fhE => (try dsimp only); exact hE
    case fhEs => (try dsimp only); exact hEs
    case fhEl => (try dsimp only); omega
    case fhL => (try dsimp only); exact hL
    case fhLs => (try dsimp only); exact hLs
    case fhLl => (try dsimp only); omega
    case fhle => (try dsimp only); exact hle
    case fhles => (try dsimp only); exact hles
    case fhll => (try dsimp only); exact hll
    case fhlls => (try dsimp only); exact hlls
    case fhsh => (try dsimp only); exact hsh
    case fhlv => (try dsimp only); exact hlv
    case fhlvD => (try dsimp only); exact hlvD
    case fn2 => (try dsimp only); exact n2
    case fn5 => (try dsimp only); exact n5
    case fnd => (try dsimp only); exact nd
    case fn0 => (try dsimp only); exact n0
    case fhb => (try dsimp only); exact hb
    case fhe => (try dsimp only); exact he
    case fhl => (try dsimp only); exact hl
    case fhoL => (try dsimp only); exact hoL
    case fhoB => (try dsimp only); exact ⟨_, hoB9⟩
    case ftab => (try dsimp only); exact tab
    case fkm => (try dsimp only); unfold known; dsimp only; (iterate 6 (refine List.forall_mem_cons.mpr ⟨by rfl, ?_⟩)); exact List.forall_mem_nil _
  case hq =>
    intro v' m' h' tk' ok' F' N'
    exact hQ v' m' h' tk' ok' F' N'

theorem km_lap {C : Co} {own : List (Addr × Obj)} {v : V} {i : Nat} {m : Str → Option Value} {x : Option Value} (h : V.ok C own v i m) : V.ok C own v i (fun y => if y = Str.ofString "lap" then x else m y) := by
  obtain ⟨off, d0, d1, hdl, hE, hEs, hEl, hL, hLs, hLl, hle, hles, hll, hlls, hsh, hlv, hlvD, n2, n5, nd, n0, hb, he, hl, hoL, hoBx, tab, km⟩ := h
  refine ⟨off, d0, d1, hdl, hE, hEs, hEl, hL, hLs, hLl, hle, hles, hll, hlls, hsh, hlv, hlvD, n2, n5, nd, n0, hb, he, hl, hoL, hoBx, tab, ?_⟩
  intro q hq
  rw [← km q hq]
  refine if_neg ?_
  intro e
  unfold known at hq
  simp only [List.mem_cons, List.not_mem_nil, or_false] at hq
  rcases hq with rfl | rfl | rfl | rfl | rfl | rfl <;> (dsimp only at e; exact absurd e (by decide))
theorem ok_own {w : World} {C : Co} {own : List (Addr × Obj)} {v : V} {i : Nat} {m : Str → Option Value} (h : V.ok C [] v i m) (k : OwnOff own ((led w C v).map (·.1))) : V.ok C own v i m ∧ OwnOff own (adr9 C) := by
  obtain ⟨off, d0, d1, hdl, hE, hEs, hEl, hL, hLs, hLl, hle, hles, hll, hlls, hsh, hlv, hlvD, n2, n5, nd, n0, hb, he, hl, hoL, hoBx, tab, km⟩ := h
  refine ⟨⟨?_, d0, d1, hdl, hE, hEs, hEl, hL, hLs, hLl, hle, hles, hll, hlls, hsh, hlv, hlvD, n2, n5, nd, n0, hb, he, hl, hoL, hoBx, tab, km⟩, ?_⟩
  · intro p hp b hb
    rcases List.mem_append.mp hb with hb | hb
    · exact off p hp b (List.mem_append_left _ hb)
    · obtain ⟨q, hq, rfl⟩ := List.mem_map.mp hb
      refine (k q hq p.1 ?_).symm
      unfold led
      simp only [List.map_cons, List.mem_cons]
      have : p.1 ∈ v.tl.map (·.1) := List.mem_map_of_mem hp
      simp [this]
  · intro q hq b hb
    refine k q hq b ?_
    unfold led
    unfold adr9 at hb
    simp only [List.map_cons, List.mem_cons, List.not_mem_nil, or_false] at hb ⊢
    rcases hb with h | h | h | h | h | h | h | h | h <;> simp [h]
theorem own_ok {w : World} {C : Co} {own : List (Addr × Obj)} {v : V} {i : Nat} {m : Str → Option Value} (h : V.ok C own v i m) (k : OwnOff own (adr9 C)) : V.ok C [] v i m ∧ OwnOff own ((led w C v).map (·.1)) := by
  obtain ⟨off, d0, d1, hdl, hE, hEs, hEl, hL, hLs, hLl, hle, hles, hll, hlls, hsh, hlv, hlvD, n2, n5, nd, n0, hb, he, hl, hoL, hoBx, tab, km⟩ := h
  refine ⟨⟨?_, d0, d1, hdl, hE, hEs, hEl, hL, hLs, hLl, hle, hles, hll, hlls, hsh, hlv, hlvD, n2, n5, nd, n0, hb, he, hl, hoL, hoBx, tab, km⟩, ?_⟩
  · intro p hp b hb
    rcases List.mem_append.mp hb with hb | hb
    · exact off p hp b (List.mem_append_left _ hb)
    · simp at hb
  · intro q hq b hb
    unfold led at hb
    simp only [List.map_cons, List.mem_cons] at hb
    have k9 := k q hq
    unfold adr9 at k9
    rcases hb with h | h | h | h | h | h | h | h | h | h
    · rw [h]; exact k9 _ (by simp)
    · rw [h]; exact k9 _ (by simp)
    · rw [h]; exact k9 _ (by simp)
    · rw [h]; exact k9 _ (by simp)
    · rw [h]; exact k9 _ (by simp)
    · rw [h]; exact k9 _ (by simp)
    · rw [h]; exact k9 _ (by simp)
    · rw [h]; exact k9 _ (by simp)
    · rw [h]; exact k9 _ (by simp)
    · obtain ⟨p, hp, rfl⟩ := List.mem_map.mp h
      exact (off p hp q.1 (List.mem_append_right _ (List.mem_map_of_mem hq))).symm
theorem loop_walk {w : World} {base g0 : Heap} {mg mb : Str → Option Value} {mean : ExcName → Option Value} {loose : List Str} {C : Co} {v : V} {m : Str → Option Value} {s : Shared} {E : Value → Shared → Prop} {Q : Flow → Shared → Prop} {fa : Addr} {S : Scope} {bd : List Stmt} {r : Addr} {b₀ : Int} {t₀ u₀ v₀ : Tok} {n : Nat}
    (hS : S = lawS) (hbd : bd = lapB) (B : Below callerA base [] g0) (F : Fr g0 C.L s.heap m) (X : (Mine.hd.heap_1 w.params).In g0) (T : Top topProg loose mean mg mb g0) (CH : CodeHd g0 307 305)
    (N : News g0 C.L s.heap (led w C v)) (hC : C.ok w) (hv : v.ok C [] 0 m) (hr : IsRange s.heap r 0 b₀ 1 t₀ u₀ v₀) (hsmall : Builtin.Range.small 0 b₀ 1 = true) (hsz : Builtin.Range.rangeSize 0 b₀ 1 = (n : Int)) (hn : n ≤ 12)
    (hQ : ∀ v' m' h' tk, V.ok C [] v' (2 * n) m' → Fr g0 C.L h' m' → News g0 C.L h' (led w C v') → Q .next { s with heap := h', toks := tk }) :
    wpAny (model Challenge.rw_np0058_01.row.prog w) (callerA.deeper (envOfC "law" S C.L fa (.ref 307))) (pyIter (.ref r)) (fun it s₂ => LoopAtV Challenge.rw_np0058_01.row.prog w (callerA.deeper (envOfC "law" S C.L fa (.ref 307))) g0 (envOfC "law" S C.L fa (.ref 307)) (Str.ofString "lap") bd Q E it s₂) E s := by
  refine range_J (n := n) (fun i m nx => ∃ v, nx = led w C v ∧ V.ok C [] v (2 * i) m) rfl hr hsmall hsz F N ⟨v, rfl, hv⟩ ?_ ?_
  · rintro i t m₁ nx h tk own hi hoff ⟨v, rfl, hok⟩ F₁ N₁
    obtain ⟨ok1, own9⟩ := ok_own (km_lap hok) hoff
    refine turn_walk (v := v) (i := 2 * i) (s := { s with heap := h, toks := tk }) hS hbd B F₁ X T CH N₁ hC ok1 own9 (by omega) (by omega) ?_
    intro v' m' h' tk' ok' F' N'
    obtain ⟨ok2, own2⟩ := own_ok (w := w) ok' own9
    exact InvEndG.intro (nx := led w C v') F' N' ⟨v', rfl, ok2⟩ own2 (fun p hp => List.mem_append_left _ hp) (fun p hp => List.mem_append_right _ hp)
  · rintro m₁ nx h tk ⟨v, rfl, hok⟩ F₁ N₁
    exact hQ v m₁ h tk hok F₁ N₁


theorem start_state {w : World} {g0 h : Heap} {m : Str → Option Value} {k0 k1 k2 k3 k4 k5 k6 k7 k8 k9 k10 k11 k12 k13 k14 k15 t0 t1 t2 t4 t5 t6 t7 t13 j0 j1 j2 j3 j4 j5 j6 u1 u2 u3 u4 u5 u6 dkt bt stt pt ht x1 x2 x3 x4 a1 a2 a3 a4 a5 : Tok} {ch dw xw dt xt dws dk Dl L l0 l1 l2 l3 l4 Ds : Nat} {ow oL oB : Obj} {q0 q5 q6 : Addr × Obj} {ys : List Value} {zs : List Int} {G : Prop}
    (N : News g0 L h [q0, (l0, listOf #[Value.int 1 a1, Value.int 2 a2, Value.int 3 a3, Value.int 4 a4, Value.int 5 a5] 0), (l1, listOf #[] 0), (l2, listOf #[] 0), (Ds, tupObj [Value.int 1 x1, Value.int 1 x2, Value.int 1 x3, Value.int 0 x4] 0), (l3, listOf #[] 0), (l4, listOf #[] 0), q5, (xw, instObj 93 dw),
      (dw, dictOf (winE w.params k0 k1 k2 k3 k4 k5 k6 k7 k8 k9 k10 k11 k12 k13 k14 k15 t0 t1 t2 ch t4 t5 t6 t7 t13 1 bt 1 stt 1 pt 0 ht false l4 l3) 16), (dws, ow), (xt, instObj 164 dt), (dt, dictOf (treeE w.params j0 j1 j2 j3 j4 j5 j6 dws u1 u2 u3 u4 u5 u6) 7), (dk, listOf #[Value.ref Dl, Value.int 1 dkt] 0), (Dl, LCg.lst ys), q6, (L + 1 + 1, oL), (L + 1, oB), ((305 : Nat), tabObj #[])])
    (F : Fr g0 L h m) (CH : CodeHd g0 307 305) (hI : IntsAre ys zs) (hz : zs.length ≤ 63) (lo : (dws == sysModules) = false) (how : Obj.IsDictOf (intKind Challenge.rw_np0058_01.row.prog w) ow [(1, .ref xw)]) (hoL : oL.data = .cell (some (.ref l0))) (hoB : ∃ x, oB.data = .cell x)
    (km : ∀ q ∈ [(Str.ofString "deck", Value.ref dk), (Str.ofString "tree", Value.ref xt), (Str.ofString "shown_window", Value.ref xw), (Str.ofString "shown", Value.ref Ds), (Str.ofString "earlier", Value.ref l2), (Str.ofString "later", Value.ref l1)], m q.1 = some q.2)
    (nn1 : @Ne Nat dw xw) (nn2 : @Ne Nat dw dt) (nn3 : @Ne Nat dw xt) (nn4 : @Ne Nat dw dws) (nn5 : @Ne Nat dw dk) (mm1 : @Ne Nat dk xw) (mm2 : @Ne Nat dk dt) (mm3 : @Ne Nat dk xt) (mm4 : @Ne Nat dk dws)
    (o1 : L + 1 + 1 < dw) (o2 : L + 1 + 1 < xw) (o3 : L + 1 + 1 < dt) (o4 : L + 1 + 1 < xt) (o5 : L + 1 + 1 < dws) (o6 : L + 1 + 1 < dk)
    (zl01 : @Ne Nat dw l0) (zl02 : @Ne Nat dk l0) (zl03 : L + 1 + 1 < l0) (zl11 : @Ne Nat dw l1) (zl12 : @Ne Nat dk l1) (zl13 : L + 1 + 1 < l1) (zl21 : @Ne Nat dw l2) (zl22 : @Ne Nat dk l2) (zl23 : L + 1 + 1 < l2) (zDs1 : @Ne Nat dw Ds) (zDs2 : @Ne Nat dk Ds) (zDs3 : L + 1 + 1 < Ds) (zl31 : @Ne Nat dw l3) (zl32 : @Ne Nat dk l3) (zl33 : L + 1 + 1 < l3) (zl41 : @Ne Nat dw l4) (zl42 : @Ne Nat dk l4) (zl43 : L + 1 + 1 < l4) (zDl1 : @Ne Nat dw Dl) (zDl2 : @Ne Nat dk Dl) (zDl3 : @Ne Nat (L + 1 + 1) Dl) (zDl4 : @Ne Nat (L + 1) Dl) (zDl5 : @Ne Nat 305 Dl)
    (k : Co.ok w ⟨k0, k1, k2, k3, k4, k5, k6, k7, k8, k9, k10, k11, k12, k13, k14, k15, t0, t1, t2, t4, t5, t6, t7, t13, j0, j1, j2, j3, j4, j5, j6, u1, u2, u3, u4, u5, u6, ch, dws, dw, xw, dt, xt, dk, Dl, L, ow, 0, ys, zs⟩ → V.ok ⟨k0, k1, k2, k3, k4, k5, k6, k7, k8, k9, k10, k11, k12, k13, k14, k15, t0, t1, t2, t4, t5, t6, t7, t13, j0, j1, j2, j3, j4, j5, j6, u1, u2, u3, u4, u5, u6, ch, dws, dw, xw, dt, xt, dk, Dl, L, ow, 0, ys, zs⟩ [] ⟨1, dkt, 1, 1, 1, 0, bt, stt, pt, ht, l4, l3, [], [], 0, 0, [], [], Ds, 0, x1, x2, x3, x4, l2, l1, [], [], 0, 0, l0, [Value.int 1 a1, Value.int 2 a2, Value.int 3 a3, Value.int 4 a4, Value.int 5 a5], 0, [1, 2, 3, 4, 5], oL, oB, #[], [(l0, listOf #[Value.int 1 a1, Value.int 2 a2, Value.int 3 a3, Value.int 4 a4, Value.int 5 a5] 0), (l1, listOf #[] 0), (l2, listOf #[] 0), (Ds, tupObj [Value.int 1 x1, Value.int 1 x2, Value.int 1 x3, Value.int 0 x4] 0), (l3, listOf #[] 0), (l4, listOf #[] 0), (Dl, LCg.lst ys)]⟩ 0 m → News g0 L h (led w ⟨k0, k1, k2, k3, k4, k5, k6, k7, k8, k9, k10, k11, k12, k13, k14, k15, t0, t1, t2, t4, t5, t6, t7, t13, j0, j1, j2, j3, j4, j5, j6, u1, u2, u3, u4, u5, u6, ch, dws, dw, xw, dt, xt, dk, Dl, L, ow, 0, ys, zs⟩ ⟨1, dkt, 1, 1, 1, 0, bt, stt, pt, ht, l4, l3, [], [], 0, 0, [], [], Ds, 0, x1, x2, x3, x4, l2, l1, [], [], 0, 0, l0, [Value.int 1 a1, Value.int 2 a2, Value.int 3 a3, Value.int 4 a4, Value.int 5 a5], 0, [1, 2, 3, 4, 5], oL, oB, #[], [(l0, listOf #[Value.int 1 a1, Value.int 2 a2, Value.int 3 a3, Value.int 4 a4, Value.int 5 a5] 0), (l1, listOf #[] 0), (l2, listOf #[] 0), (Ds, tupObj [Value.int 1 x1, Value.int 1 x2, Value.int 1 x3, Value.int 0 x4] 0), (l3, listOf #[] 0), (l4, listOf #[] 0), (Dl, LCg.lst ys)]⟩) → G) : G := by
  have o0 : 305 < L := by
    obtain ⟨oc, _, _, _, _, _, _, _, _, hgc, _⟩ := CH
    exact Nat.lt_trans (by decide : 305 < 307) (Nat.lt_of_lt_of_le (Heap.lt_size hgc) F.above)
  refine k ⟨lo, how, nn1, nn2, nn3, nn4, nn5, mm1, mm2, mm3, mm4, zDl2, o0, o1, o2, o3, o4, o5, o6, hI, hz⟩ ?_ ?_
  · refine ⟨?_, (by dsimp only; decide), (by dsimp only; decide), by simp, by simp, .nil, (by dsimp only; decide), by simp, .nil, (by dsimp only; decide), by simp, .nil, by simp, .nil, by simp, by simp, .cons (.int _ _) (.cons (.int _ _) (.cons (.int _ _) (.cons (.int _ _) (.cons (.int _ _) .nil)))), (by dsimp only; decide), (by dsimp only; decide), (by dsimp only; decide), (by dsimp only; decide), (by dsimp only; decide), (fun _ h => nomatch h), (fun _ h => nomatch h), hoL, hoB, ?_, km⟩
    · have key : ∀ a : Nat, @Ne Nat dw a → @Ne Nat dk a → L + 1 + 1 < a → ∀ b ∈ [dw, dk, L + 1 + 1, L + 1, 305], a ≠ b := by
        intro a h1 h2 h3
        exact List.forall_mem_cons.mpr ⟨h1.symm, List.forall_mem_cons.mpr ⟨h2.symm, List.forall_mem_cons.mpr ⟨Nat.ne_of_gt h3, List.forall_mem_cons.mpr ⟨by omega, List.forall_mem_cons.mpr ⟨by omega, List.forall_mem_nil _⟩⟩⟩⟩⟩
      show ∀ p : Addr × Obj, p ∈ _ → ∀ b ∈ [dw, dk, L + 1 + 1, L + 1, 305], p.1 ≠ b
      exact List.forall_mem_cons.mpr ⟨key _ zl01 zl02 zl03, List.forall_mem_cons.mpr ⟨key _ zl11 zl12 zl13, List.forall_mem_cons.mpr ⟨key _ zl21 zl22 zl23, List.forall_mem_cons.mpr ⟨key _ zDs1 zDs2 zDs3, List.forall_mem_cons.mpr ⟨key _ zl31 zl32 zl33, List.forall_mem_cons.mpr ⟨key _ zl41 zl42 zl43, List.forall_mem_cons.mpr ⟨List.forall_mem_cons.mpr ⟨zDl1.symm, List.forall_mem_cons.mpr ⟨zDl2.symm, List.forall_mem_cons.mpr ⟨zDl3.symm, List.forall_mem_cons.mpr ⟨zDl4.symm, List.forall_mem_cons.mpr ⟨zDl5.symm, List.forall_mem_nil _⟩⟩⟩⟩⟩, List.forall_mem_nil _⟩⟩⟩⟩⟩⟩⟩
    · exact ⟨trivial, fun pos v e => by simp [codeAmong] at e⟩
  · unfold led
    dsimp only [List.cons_append, List.nil_append]
    (iterate 16 (refine List.forall_mem_cons.mpr ⟨N _ (by repeat (first | with_reducible exact List.Mem.head _ | refine List.Mem.tail _ ?_)), ?_⟩))
    exact List.forall_mem_nil _
theorem range_facts {r : Int} (h0 : 0 ≤ r) (h1 : r < 8) : Builtin.Range.small 0 (3 + r) 1 = true ∧ Builtin.Range.rangeSize 0 (3 + r) 1 = (((3 + r).toNat : Nat) : Int) := by
  refine ⟨small_one (by decide) (by decide) (by omega) (by omega), ?_⟩
  rw [rangeSize_nat]
  simp

section
open Builtin Builtin.ObjectAttr
section
variable {prog : Program} {w : World} {A : Around} {E : Value → Shared → Prop} {h : Heap} {g : Array GenState} {d : Drawn} {t : Nat} {os : OsState}
variable {nm q : Str} {C N x : Addr} {bs bm : List Value} {sn : List Str} {sub : List Value} {ab : Bool} {col : Option Bool} {dd : Option Addr} {k0 k1 k2 k3 k5 : Option Value} {B newId sa owner : String}
  {mN mA : Str → Option Value} {name : Str} {v : Value}
theorem raise_own {env : Env} {hdct : Bool} {s : Shared} {y : Sem Value} {Q : Flow → Shared → Prop} (hbase : bm.contains (.type "BaseException") = true) (hh : A.handled = none)
    (k : wpAny (model prog w) A y (fun v s₁ => ∃ e t dx, v = .ref e ∧ s₁.heap.get? C = some (excClassObj nm q C N bs bm hdct sn sub ab col dd k0 k1 k2 k3 k5 newId) ∧
      s₁.heap.get? e = some { cls := .ref C, dict := dx, data := .fields #[.ref t, .none, .none, .none, .bool false, .none] } ∧ E (.ref e) s₁) E s) :
    wpAny (model prog w) A (raiseStmt env (some y) none) Q E s := by
  have hin : (Value.ref C :: bm).contains (.type "BaseException") = true := by rw [List.contains_cons, hbase, Bool.or_true]
  unfold raiseStmt
  refine wpAny_bind (wpAny_mono k (fun v s₁ h₁ => ?_) fun _ _ z => z)
  obtain ⟨e, t, dx, rfl, hC, he, hE⟩ := h₁
  obtain ⟨hp, g, d, tk, os⟩ := s₁
  repeat (first | with_reducible refine wpAny_loadPart_at he ?_ | with_reducible refine wpAny_loadPart_at hC ?_ | (with_reducible refine wpAny_isSubtype_exc hC ?_; rw [hin]) | wp_step)
  exact wpAny_raiseNew_none hh hE
theorem first_store {vs : Array Value} {Q : Unit → Shared → Prop} (SF : StoreFacts B bm sa owner)
    (hC : h.get? C = some (excClassObj nm q C N bs bm true sn sub ab col dd k0 k1 k2 k3 k5 newId)) (hn : h.Ns N mN) (hns : mN "__setattr__" = none) (hna : mN name = none)
    (hB : typeLookup (.type B) name = pure none) (hx : h.get? x = some { cls := .ref C, data := .fields vs })
    (hq : ∀ h' tk', h'.get? x = some { cls := .ref C, dict := some h.objs.size, data := .fields vs } → h'.InstFk x C (fun y => if y = name then some v else none) →
      (∀ b o, b ≠ x → h.get? b = some o → h'.get? b = some o) → Q () ⟨h', g, d, tk', os⟩) :
    wpAny (model prog w) A (setAttr (.ref x) name v) Q E ⟨h, g, d, t, os⟩ := by
  have hb := SF.slot.bind (.ref x)
  have hp := SF.passes (.ref x)
  have hlt := Heap.lt_size hx
  unfold setAttr callSpecial? specialOf
  repeat (any_goals (first | assumption | with_reducible refine wpAny_loadPart_at hx ?_ | (with_reducible refine wpAny_typeLookup_exc hC hn SF.mro SF.slot.lookup ?_; rw [hns]) | wp_step))
  refine codeAny_call_builtin SF.slot.plain SF.entry (wpAny_check_sa SF hC hx rfl ?_)
  unfold Builtin.«object.__setattr__»
  repeat (first | rw [refuse_eq] | (rw [refuseLoop_ref, hp]) | with_reducible refine wpAny_loadPart_at hx ?_ | with_reducible refine wpAny_mroOf_exc hC ?_ | (with_reducible refine wpAny_typeLookup_exc hC hn SF.mro hB ?_; rw [hna]) | ((fail_if_success (with_reducible show wpAny _ _ (nsSet _ _ _) _ _ _)); (fail_if_success (with_reducible show wpAny _ _ (nsSet _ _ _ >>= _) _ _ _)); wp_step))
  have h1 : ((h.push { cls := .type "dict", data := .dict #[] }).update x fun o => { o with dict := some h.objs.size }).get? h.objs.size = some { cls := .type "dict", data := .dict #[] } :=
    (Heap.get?_update_ne _ _ _ _ (Nat.ne_of_gt hlt)).trans (Heap.get?_push_at rfl rfl)
  have h2 : ((h.push { cls := .type "dict", data := .dict #[] }).update x fun o => { o with dict := some h.objs.size }).get? x = some { cls := .ref C, dict := some h.objs.size, data := .fields vs } :=
    Heap.get?_update_self _ (Heap.get?_push_of_some _ hx) rfl
  have h3 : ((h.push { cls := .type "dict", data := .dict #[] }).update x fun o => { o with dict := some h.objs.size }).Ns h.objs.size (fun _ => none) :=
    ⟨_, #[], _, h1, rfl, fun e he => absurd he (by simp), fun _ => rfl⟩
  refine wpAny_bind (wpAny_nsSet1EFk (Heap.Ns1.of_empty h3) fun h' n' s' e' => ?_)
  obtain ⟨oD, esD, epD, q1, q2, q3⟩ := n'.count (Within.cons name v Within.nil)
  refine wpAny_bind (wpAny_lookBehind q1 (by rw [q2]; exact pastItsLine_dict (Nat.le_trans q3 (by rw [List.length_cons, List.length_nil, sizeLine_eq]; omega))) ?_)
  repeat (any_goals (first | assumption | wp_step))
  have hxs : x ≠ h.objs.size := Nat.ne_of_lt hlt
  have hx' : h'.get? x = some { cls := .ref C, dict := some h.objs.size, data := .fields vs } := (s'.2 x hxs).trans h2
  refine hq h' _ hx' ⟨_, hx', rfl, (fun c e => by cases e), .inr ⟨h.objs.size, rfl, hxs.symm, ?_, ?_⟩⟩ fun b o hb ho => ?_
  · obtain ⟨o', es, ep, w1, w2, w3, wu, w4⟩ := n'
    exact ⟨o', es, ep, w1, w2, w3, wu, w4⟩
  · obtain ⟨od', w1, w2, w3⟩ := e' _ h1
    exact ⟨od', w1, w2, w3⟩
  · exact (s'.2 b (Nat.ne_of_lt (Heap.lt_size ho))).trans ((Heap.get?_update_ne _ _ _ _ hb).trans (Heap.get?_push_of_some _ ho))
end
theorem handle_own {prog : Program} {w : World} {A : Around} {E : Value → Shared → Prop} {s : Shared} {env : Env} {nm q : Str} {C N e : Addr} {bs bm : List Value} {hdct : Bool} {sn : List Str} {sub : List Value} {ab : Bool} {col : Option Bool} {dd : Option Addr} {k0 k1 k2 k3 k5 : Option Value} {newId : String}
    {t : PySem.Expr} {b₀ : Stmt} {suite : List Stmt} {pos : Pos} {rest : List ExceptHandler} {Q : Flow → Shared → Prop} (hbase : bm.contains (.type "BaseException") = true)
    (h : wpAny (model prog w) (A.mark (some (.ref e))) (eval t env) (fun c s₁ => c = .ref C ∧ s₁.heap.get? C = some (excClassObj nm q C N bs bm hdct sn sub ab col dd k0 k1 k2 k3 k5 newId) ∧ (∃ oe, s₁.heap.get? e = some oe ∧ oe.cls = .ref C) ∧
      wpAny (model prog w) (A.mark (some (.ref e))) (setFlight (.ref e) none) (fun _ s₂ => wpAny (model prog w) (A.mark (some (.ref e))) (execs (b₀ :: suite) env) Q (notedBy (model prog w) (A.mark (some (.ref e))) env (cameBackBy (model prog w) A env E)) s₂) (notedBy (model prog w) (A.mark (some (.ref e))) env (cameBackBy (model prog w) A env E)) s₁) (notedBy (model prog w) (A.mark (some (.ref e))) env (cameBackBy (model prog w) A env E)) s) :
    wpAny (model prog w) A (handleBy (.ref e) env (.ExceptHandler (some t) none (b₀ :: suite) pos :: rest)) Q E s := by
  refine wpAny_handleBy_cons (codeAny_handlers_test (wpAny_mono h (fun c s₁ h₁ => ?_) fun _ _ y => y)) (by intro q; cases q)
  obtain ⟨rfl, hC, ⟨oe, he, hcls⟩, hk⟩ := h₁
  obtain ⟨hh, g, d, tk, os⟩ := s₁
  exact wpAny_excMatches_sub_self hC he hcls hbase (codeAny_handlers_suite hk)
theorem ne_new {g h : Heap} {L e : Addr} {led : List (Addr × Obj)} (N : News g L h led) (he : h.get? e = none) : ∀ p ∈ led, p.1 ≠ e := fun p hp q => by
  have := (N p hp).1
  rw [q, he] at this
  cases this
theorem store_frame {g h h' : Heap} {L e : Addr} {m : Str → Option Value} {oe oe' : Obj} {r : List (Addr × Obj)} (F : Fr g L h m) (N : News g L h ((e, oe) :: r)) (hr : ∀ p ∈ r, p.1 ≠ e) (hk : ∀ b o, b ≠ e → h.get? b = some o → h'.get? b = some o) (hx : h'.get? e = some oe') :
    Fr g L h' m ∧ News g L h' ((e, oe') :: r) := by
  have he := N _ (.head _)
  obtain ⟨o, es, ep, ho, q⟩ := F.ns
  refine ⟨⟨⟨o, es, ep, hk _ _ (Ne.symm he.2.1) ho, q⟩, fun b o hb => hk b o (fun q => ?_) (F.keep b o hb), F.above⟩, fun p hp => ?_⟩
  · rw [q, he.2.2] at hb; cases hb
  · rcases List.mem_cons.mp hp with rfl | hp
    · exact ⟨hx, he.2⟩
    · have n := N p (.tail _ hp)
      exact ⟨hk _ _ (hr p hp) n.1, n.2⟩

end
theorem lisp_ns {P : Params} {h : Heap} (X : (Mine.hd.heap_1 P).In h) : ∃ mN oI, h.Ns 37 mN ∧ mN "__init__" = some (.ref 35) ∧ mN "__setattr__" = none ∧ mN "symbol" = none ∧ mN "data" = none ∧ h.get? 35 = some oI ∧ oI.cls = .type "function" := by
  have e := X 37 _ (by rfl)
  have f := X 35 _ (by rfl)
  have hN : h.Ns 37 (h.nsMap 37) := Heap.Ns.of_isNs (by unfold Heap.isNs; rw [e]; dsimp only; rw [← Array.all_toList]; rfl)
  refine ⟨h.nsMap 37, _, hN, ?_, ?_, ?_, ?_, f, rfl⟩
  all_goals (unfold Heap.nsMap; rw [e]; dsimp only; unfold nsFind findBy; rw [← Array.find?_toList]; rfl)
theorem lisp_cls {P : Params} {h : Heap} (X : (Mine.hd.heap_1 P).In h) : ∃ nm q bs sn sub ab col dd k0 k1 k2 k3 k5, h.get? 38 = some (excClassObj nm q 38 37 bs [.type "Exception", .type "BaseException", .type "object"] true sn sub ab col dd k0 k1 k2 k3 k5 "Exception.__new__") :=
  ⟨_, _, _, _, _, _, _, _, _, _, _, _, _, X 38 _ (by rfl)⟩

theorem show_same {w : World} {base g0 : Heap} {env : Env} {mg mb : Str → Option Value} {mean : ExcName → Option Value} {loose : List Str} {L : Addr} {m : Str → Option Value} {s : Shared} {E : Value → Shared → Prop} {Q : Value → Shared → Prop} {k0 k1 k2 k3 k4 k5 k6 k7 k8 k9 k10 k11 k12 k13 k14 k15 : Tok} {t0 t1 t2 t4 t5 t6 t7 t13 : Tok} {ch : Addr} {j0 j1 j2 j3 j4 j5 j6 : Tok} {u1 u2 u3 u4 u5 u6 : Tok} {dws dw xw dt xt : Addr} {ow : Obj} {ded : Bool}
    {b st p h : Int} {bt stt pt ht : Tok} {we wl : Addr} {tl : List (Addr × Obj)} {nt rt : Tok}
    (B : Below callerA base [] g0) (F : Fr g0 L s.heap m) (X : (Mine.hd.heap_1 w.params).In g0) (T : Top topProg loose mean mg mb g0) (hf : env.frame = some L) (hke : env.scope.kind = .function)
    (N : News g0 L s.heap ((dw, dictOf (winE w.params k0 k1 k2 k3 k4 k5 k6 k7 k8 k9 k10 k11 k12 k13 k14 k15 t0 t1 t2 ch t4 t5 t6 t7 t13 b bt st stt p pt h ht ded we wl) 16) :: (xw, instObj 93 dw) :: (dt, dictOf (treeE w.params j0 j1 j2 j3 j4 j5 j6 dws u1 u2 u3 u4 u5 u6) 7) :: (xt, instObj 164 dt) :: (dws, ow) :: tl))
    (hOff : OwnOff tl [dw]) (hn1 : @Ne Nat dw xw) (hn2 : @Ne Nat dw dt) (hn3 : @Ne Nat dw xt) (hn4 : @Ne Nat dw dws) (hlo : (dws == sysModules) = false) (hOw : Obj.IsDictOf (intKind Challenge.rw_np0058_01.row.prog w) ow [(1, .ref xw)])
    (hsame : ∀ h' tk, Fr g0 L h' m → News g0 L h' ((dw, dictOf (winE w.params k0 k1 k2 k3 k4 k5 k6 k7 k8 k9 k10 k11 k12 k13 k14 k15 t0 t1 t2 ch t4 t5 t6 t7 t13 b bt st stt p pt h ht ded we wl) 16) :: (xw, instObj 93 dw) :: (dt, dictOf (treeE w.params j0 j1 j2 j3 j4 j5 j6 dws u1 u2 u3 u4 u5 u6) 7) :: (xt, instObj 164 dt) :: (dws, ow) :: tl) → Q .none { s with heap := h', toks := tk }) :
    wpAny (model Challenge.rw_np0058_01.row.prog w) (callerA.deeper env) (PySem.call (.ref 276) [.ref xt, .int 1 rt, .int b nt] []) Q E s := by
  have hPR : PySem.Challenge.rw_np0058_01 = PySem.Challenge.rw_np0058_01 ∧ Mine.hd.heap_1 = Mine.hd.heap_1 := by
    k_fill
    exact ⟨rfl, rfl⟩
  have hKd := kdMark
  refine wpAny_call ?_
  ((refine' code_defC ?k1 ?k2 ?k3 ?k4 ?k5 ?kA ?kF ?kK ?k6 ?k7 ?k8 ?k9 ?kB ?kD ?_ ?c2 ?c3 ?c4; (case kA => exact rfl); (case kF => first | exact rfl | assumption); (case kK => first | exact rfl | assumption); (case k1 => k_asm); (case k2 => k_asm); (case k3 => k_asm); (case k4 => k_asm); (case k5 => k_asm); (case k6 => k_is); (case k7 => k_is); (case k8 => k_room); (case k9 => first | exact BindsTo.of_eq rfl | exact binds_K (by k_in) rfl (by k_is) rfl rfl rfl | fail "k_enter: no rule for these arguments"); (case kB => exact rfl); (case kD => decide +kernel); (case c2 => exact rfl); (case c3 => exact rfl); (case c4 => exact rfl); k_whole; walk_at "MINE inenterC"))
  (repeat' (first | (k_unfold; (try dsimp only)) | ((( (fail_if_success (with_reducible show wpAny _ _ (exec (Stmt.Raise _ _ _) _) _ _ _)))); walk1) | (dsimp only; (( (fail_if_success (with_reducible show wpAny _ _ (exec (Stmt.Raise _ _ _) _) _ _ _)))); walk1) | (dsimp only; k_unfold; (try dsimp only))))
  · rename Fr g0 L _ m => kF
    rename News g0 L _ _ => kN
    exact hsame _ _ kF (fun p hp => kN p (.tail _ hp))
  all_goals exact absurd rfl (by assumption : b ≠ b)

theorem show_raise {w : World} {base g0 : Heap} {env : Env} {mg mb : Str → Option Value} {mean : ExcName → Option Value} {loose : List Str} {L : Addr} {m : Str → Option Value} {s : Shared} {E : Value → Shared → Prop} {Q : Value → Shared → Prop} {k0 k1 k2 k3 k4 k5 k6 k7 k8 k9 k10 k11 k12 k13 k14 k15 : Tok} {t0 t1 t2 t4 t5 t6 t7 t13 : Tok} {ch : Addr} {j0 j1 j2 j3 j4 j5 j6 : Tok} {u1 u2 u3 u4 u5 u6 : Tok} {dws dw xw dt xt : Addr} {ow : Obj}
    {b st p h : Int} {bt stt pt ht : Tok} {we wl : Addr} {tl : List (Addr × Obj)} {nb : Int} {nt rt : Tok}
    (B : Below callerA base [] g0) (F : Fr g0 L s.heap m) (X : (Mine.hd.heap_1 w.params).In g0) (T : Top topProg loose mean mg mb g0) (hf : env.frame = some L) (hke : env.scope.kind = .function)
    (N : News g0 L s.heap ((dw, dictOf (winE w.params k0 k1 k2 k3 k4 k5 k6 k7 k8 k9 k10 k11 k12 k13 k14 k15 t0 t1 t2 ch t4 t5 t6 t7 t13 b bt st stt p pt h ht true we wl) 16) :: (xw, instObj 93 dw) :: (dt, dictOf (treeE w.params j0 j1 j2 j3 j4 j5 j6 dws u1 u2 u3 u4 u5 u6) 7) :: (xt, instObj 164 dt) :: (dws, ow) :: tl))
    (hOff : OwnOff tl [dw]) (hn1 : @Ne Nat dw xw) (hn2 : @Ne Nat dw dt) (hn3 : @Ne Nat dw xt) (hn4 : @Ne Nat dw dws) (hlo : (dws == sysModules) = false) (hOw : Obj.IsDictOf (intKind Challenge.rw_np0058_01.row.prog w) ow [(1, .ref xw)]) (hne : b ≠ nb)
    (hE : ∀ h4 e te b9 tk, Heap.FlyingW b9 [env] e (.ref 38) (.ref te) h4 → Fr g0 L h4 m → News g0 L h4 ((dw, dictOf (winE w.params k0 k1 k2 k3 k4 k5 k6 k7 k8 k9 k10 k11 k12 k13 k14 k15 t0 t1 t2 ch t4 t5 t6 t7 t13 b bt st stt p pt h ht true we wl) 16) :: (xw, instObj 93 dw) :: (dt, dictOf (treeE w.params j0 j1 j2 j3 j4 j5 j6 dws u1 u2 u3 u4 u5 u6) 7) :: (xt, instObj 164 dt) :: (dws, ow) :: tl) → g0.StaysIn b9 → (∀ z ∈ ((dw, dictOf (winE w.params k0 k1 k2 k3 k4 k5 k6 k7 k8 k9 k10 k11 k12 k13 k14 k15 t0 t1 t2 ch t4 t5 t6 t7 t13 b bt st stt p pt h ht true we wl) 16) :: (xw, instObj 93 dw) :: (dt, dictOf (treeE w.params j0 j1 j2 j3 j4 j5 j6 dws u1 u2 u3 u4 u5 u6) 7) :: (xt, instObj 164 dt) :: (dws, ow) :: tl), b9.get? z.1 = some z.2) → E (.ref e) { s with heap := h4, toks := tk }) :
    wpAny (model Challenge.rw_np0058_01.row.prog w) (callerA.deeper env) (PySem.call (.ref 276) [.ref xt, .int 1 rt, .int nb nt] []) Q E s := by
  have hPR : PySem.Challenge.rw_np0058_01 = PySem.Challenge.rw_np0058_01 ∧ Mine.hd.heap_1 = Mine.hd.heap_1 := by
    k_fill
    exact ⟨rfl, rfl⟩
  have hKd := kdMark
  refine wpAny_call ?_
  ((refine' code_defC ?k1 ?k2 ?k3 ?k4 ?k5 ?kA ?kF ?kK ?k6 ?k7 ?k8 ?k9 ?kB ?kD ?_ ?c2 ?c3 ?c4; (case kA => exact rfl); (case kF => first | exact rfl | assumption); (case kK => first | exact rfl | assumption); (case k1 => k_asm); (case k2 => k_asm); (case k3 => k_asm); (case k4 => k_asm); (case k5 => k_asm); (case k6 => k_is); (case k7 => k_is); (case k8 => k_room); (case k9 => first | exact BindsTo.of_eq rfl | exact binds_K (by k_in) rfl (by k_is) rfl rfl rfl | fail "k_enter: no rule for these arguments"); (case kB => exact rfl); (case kD => decide +kernel); (case c2 => exact rfl); (case c3 => exact rfl); (case c4 => exact rfl); k_whole; walk_at "MINE inenterC"))
  rename_i gS LS hS tkS FGS FS BS XS TS lS oS dS NS
  (repeat' (first | (k_unfold; (try dsimp only)) | ((( (fail_if_success (with_reducible show wpAny _ _ (exec (Stmt.Raise _ _ _) _) _ _ _)); (fail_if_success (with_reducible show wpAny _ _ (setAttr _ _ _) _ _ _)); (fail_if_success (with_reducible show wpAny _ _ (PySem.call (Value.ref 38) _ _) _ _ _)))); walk1) | (dsimp only; (( (fail_if_success (with_reducible show wpAny _ _ (exec (Stmt.Raise _ _ _) _) _ _ _)); (fail_if_success (with_reducible show wpAny _ _ (setAttr _ _ _) _ _ _)); (fail_if_success (with_reducible show wpAny _ _ (PySem.call (Value.ref 38) _ _) _ _ _)))); walk1) | (dsimp only; k_unfold; (try dsimp only))))
  · exact absurd (by assumption : b = nb) hne
  rw [arm_exec_Raise]
  refine wpAny_bind (wpAny_standAt ?_)
  obtain ⟨nm9, q9, bs9, sn9, sub9, ab9, col9, dd9, kk0, kk1, kk2, kk3, kk5, hC0⟩ := lisp_cls XS
  obtain ⟨mN, oI, hNs0, hi0, hs0, hsy, hda, hfI0, hfc⟩ := lisp_ns XS
  refine raise_own (nm := nm9) (q := q9) (C := 38) (N := 37) (bs := bs9) (sn := sn9) (sub := sub9) (ab := ab9) (col := col9) (dd := dd9) (k0 := kk0) (k1 := kk1) (k2 := kk2) (k3 := kk3) (k5 := kk5) (newId := "Exception.__new__") (bm := [.type "Exception", .type "BaseException", .type "object"]) (hdct := true) (by rfl) rfl ?_
  refine wpAny_bind ?_
  (repeat' (first | (k_unfold; (try dsimp only)) | ((( (fail_if_success (with_reducible show wpAny _ _ (exec (Stmt.Raise _ _ _) _) _ _ _)); (fail_if_success (with_reducible show wpAny _ _ (setAttr _ _ _) _ _ _)); (fail_if_success (with_reducible show wpAny _ _ (PySem.call (Value.ref 38) _ _) _ _ _)))); walk1) | (dsimp only; (( (fail_if_success (with_reducible show wpAny _ _ (exec (Stmt.Raise _ _ _) _) _ _ _)); (fail_if_success (with_reducible show wpAny _ _ (setAttr _ _ _) _ _ _)); (fail_if_success (with_reducible show wpAny _ _ (PySem.call (Value.ref 38) _ _) _ _ _)))); walk1) | (dsimp only; k_unfold; (try dsimp only))))
  rename Fr gS LS _ _ => FZ
  rename News gS LS _ _ => NZ
  refine wpAny_call_exc_init PySem.F.excBase_Exception (FZ.keep _ _ hC0) (hNs0.keeps FZ.keep) hi0 (FZ.keep _ _ hfI0) hfc ?_ (Nat.le_of_ble_eq_true rfl)
  intro h1 e hm
  obtain ⟨te, he1, hte, hte1⟩ := hm.there
  have hge : gS.get? e = none := by
    cases hq : gS.get? e with
    | none => rfl
    | some o' => have := FZ.keep e o' hq; rw [hm.new] at this; cases this
  have hLe : e ≠ LS := by
    intro q
    obtain ⟨oL, _, _, hL, _⟩ := FZ.ns
    rw [← q, hm.new] at hL
    cases hL
  have FY := FZ.keeps hm.keeps
  have NY : News gS LS h1 ((e, { cls := .ref 38, data := .fields #[.ref te, .none, .none, .none, .bool false, .none] }) :: _) := List.forall_mem_cons.mpr ⟨⟨he1, hLe, hge⟩, fun p hp => ⟨hm.keeps _ _ (NZ p hp).1, (NZ p hp).2⟩⟩
  refine wpAny_call ?_
  ((refine' code_defG ?k1 ?k2 ?k3 ?k4 ?k5 ?kA ?kF ?kK ?k6 ?k7 ?k8 ?k9 ?kB ?_ ?c2 ?c3 ?c4 ?c5; (case kA => exact rfl); (case kF => first | exact rfl | assumption); (case kK => first | exact rfl | assumption); (case k1 => k_asm); (case k2 => k_asm); (case k3 => k_asm); (case k4 => k_asm); (case k5 => k_asm); (case k6 => k_is); (case k7 => k_is); (case k8 => k_room); (case k9 => first | exact BindsTo.of_eq rfl | exact binds_K (by k_in) rfl (by k_is) rfl rfl rfl | fail "k_enter: no rule for these arguments"); (case c5 => decide); (case kB => exact locs rfl); (case c2 => exact rfl); (case c3 => exact rfl); (case c4 => exact rfl); k_whole; walk_at "MINE inenter"))
  rename_i gI LI hI9 FGI FI NI BI XI TI kGI
  (repeat' (first | (k_unfold; (try dsimp only)) | ((( (fail_if_success (with_reducible show wpAny _ _ (exec (Stmt.Raise _ _ _) _) _ _ _)); (fail_if_success (with_reducible show wpAny _ _ (setAttr _ _ _) _ _ _)); (fail_if_success (with_reducible show wpAny _ _ (PySem.call (Value.ref 38) _ _) _ _ _)))); walk1) | (dsimp only; (( (fail_if_success (with_reducible show wpAny _ _ (exec (Stmt.Raise _ _ _) _) _ _ _)); (fail_if_success (with_reducible show wpAny _ _ (setAttr _ _ _) _ _ _)); (fail_if_success (with_reducible show wpAny _ _ (PySem.call (Value.ref 38) _ _) _ _ _)))); walk1) | (dsimp only; k_unfold; (try dsimp only))))
  rename Fr gI LI _ _ => FW
  rename News gI LI _ _ => NW
  obtain ⟨nm1, q1, bs1, sn1, sub1, ab1, col1, dd1, kl0, kl1, kl2, kl3, kl5, hC1⟩ := lisp_cls XI
  obtain ⟨mN1, oI1, hNs1, _, hs1, hsy1, hda1, _, _⟩ := lisp_ns XI
  have hrE := ne_new NZ hm.new
  have heI := NW _ (.head _)
  refine first_store PySem.F.store_Exception (FW.keep _ _ hC1) (hNs1.keeps FW.keep) hs1 hsy1 (by rw [typeLookup_type, builtinLookup_eq_fast]; kernel_rfl) heI.1 ?_
  intro h2 tk2 hx2 hI2 hk2
  obtain ⟨F2, N2⟩ := store_frame FW NW hrE hk2 hx2
  (repeat' (first | (k_unfold; (try dsimp only)) | ((( (fail_if_success (with_reducible show wpAny _ _ (exec (Stmt.Raise _ _ _) _) _ _ _)); (fail_if_success (with_reducible show wpAny _ _ (setAttr _ _ _) _ _ _)); (fail_if_success (with_reducible show wpAny _ _ (PySem.call (Value.ref 38) _ _) _ _ _)))); walk1) | (dsimp only; (( (fail_if_success (with_reducible show wpAny _ _ (exec (Stmt.Raise _ _ _) _) _ _ _)); (fail_if_success (with_reducible show wpAny _ _ (setAttr _ _ _) _ _ _)); (fail_if_success (with_reducible show wpAny _ _ (PySem.call (Value.ref 38) _ _) _ _ _)))); walk1) | (dsimp only; k_unfold; (try dsimp only))))
  refine store_attrFk PySem.F.store_Exception (F2.keep _ _ hC1) (hNs1.keeps F2.keep) hs1 hda1 (by rw [typeLookup_type, builtinLookup_eq_fast]; kernel_rfl) ?hxC hI2 ?hq3 (Within.cons _ _ Within.nil)
  case hxC =>
    intro q
    have := heI.2.2
    rw [q, hC1] at this
    cases this
  case hq3 =>
    intro h3 tk3 hI3 hk3 hs3
    obtain ⟨o1, hx3, c1, c2, c3, c4⟩ := hs3 _ hx2
    have ho1 : o1 = { cls := .ref 38, dict := some hI9.objs.size, data := .fields #[.ref te, .none, .none, .none, .bool false, .none] } := by
      obtain ⟨oc, od, odt, osl⟩ := o1
      have c4' := c4 _ rfl
      dsimp only at c1 c2 c3 c4'
      subst c1 c2 c3 c4'
      rfl
    subst ho1
    have hk' := fun b o (hb : b ≠ e) ho => hk3 b o hb (fun o₀ dx q1 q2 => by rw [hx2] at q1; cases q1; cases q2; exact Nat.ne_of_lt (Heap.lt_size ho)) (hk2 b o hb ho)
    obtain ⟨F3, N3⟩ := store_frame FW NW hrE hk' hx3
    dsimp only
    walk1
    (try dsimp only)
    refine leaveK_ F3 N3 ?_
    intro kF kN
    refine ⟨rfl, wpAny_bind (wpAny_standAt (wpAny_pure ⟨e, te, _, rfl, kF.keep _ _ hC0, (kN _ (.head _)).1, ?_⟩))⟩
    refine wpAny_leaving_firstW (base := hideAll h3 [LS, L, e]) rfl ?frs rfl (kN _ (.head _)).1 (fun b o q => of_hideAll _ q) (hideAll_none _ (by simp)) rfl rfl rfl ?lv
    case frs =>
      refine funFrames_hide (base := base) (pushX BS kF rfl rfl).frames ?_
      intro en hen a ha
      simp only [List.mem_cons, List.not_mem_nil, or_false] at hen
      rcases hen with rfl | rfl
      · have : a = LS := Option.some.inj (ha.symm.trans rfl)
        simp [this]
      · have : a = L := Option.some.inj (ha.symm.trans hf)
        simp [this]
    case lv =>
    intro h4 hl4
    obtain ⟨w1, w2, w3, w4⟩ := hl4
    have gL : gS.get? LS = none := kts_self kF
    have gL0 : g0.get? L = none := kts_self FGS
    have st9 : g0.StaysIn (hideAll h3 [LS, L, e]) := fun b o hb => by
      have hb1 := FGS.keep b o hb
      refine hideAll_get _ (kF.keep b o hb1) ?_
      simp only [List.mem_cons, List.not_mem_nil, or_false, not_or]
      exact ⟨fun q => (by rw [q, gL] at hb1; cases hb1), fun q => (by rw [q, gL0] at hb; cases hb), fun q => (by rw [q, hge] at hb1; cases hb1)⟩
    have led9 : ∀ z ∈ ((dw, dictOf (winE w.params k0 k1 k2 k3 k4 k5 k6 k7 k8 k9 k10 k11 k12 k13 k14 k15 t0 t1 t2 ch t4 t5 t6 t7 t13 b bt st stt p pt h ht true we wl) 16) :: (xw, instObj 93 dw) :: (dt, dictOf (treeE w.params j0 j1 j2 j3 j4 j5 j6 dws u1 u2 u3 u4 u5 u6) 7) :: (xt, instObj 164 dt) :: (dws, ow) :: tl), (hideAll h3 [LS, L, e]).get? z.1 = some z.2 := fun z hp => by
      have n1 := kN z (List.Mem.tail _ (List.Mem.tail _ (List.Mem.tail _ hp)))
      refine hideAll_get _ n1.1 ?_
      simp only [List.mem_cons, List.not_mem_nil, or_false, not_or]
      exact ⟨n1.2.1, (N z hp).2.1, hrE z (List.Mem.tail _ (List.Mem.tail _ hp))⟩
    have F4 : Fr g0 L h4 m := by
      obtain ⟨oL, es, ep, q1, q2, q3⟩ := FGS.ns
      obtain ⟨sl, q4⟩ := w4 L oL (kF.keep _ _ q1) (fun vs q => by rw [q2] at q; cases q)
      exact ⟨⟨_, es, ep, q4, q2, q3⟩, fun b o hb => w1 b o (st9 b o hb), FGS.above⟩
    exact hE h4 e te _ _ ⟨w1, hideAll_none _ (by simp), w2.2.2, w3⟩ F4 (fun z hp => ⟨w1 _ _ (led9 z hp), (N z hp).2⟩) st9 led9

theorem end_walk {w : World} {g0 : Heap} {mg mb : Str → Option Value} {mean : ExcName → Option Value} {loose : List Str} {C : Co} {v : V} {own : List (Addr × Obj)} {i : Nat} {m : Str → Option Value} {s : Shared} {E : Value → Shared → Prop} {Q : Flow → Shared → Prop} {fa : Addr} {S : Scope} {bd : List Stmt}
    (hS : S = lawS) (hbd : bd = (fnB lawDef).drop 5) (B : Below callerA g0 [] g0) (F : Fr g0 C.L s.heap m) (X : (Mine.hd.heap_1 w.params).In g0) (T : Top topProg loose mean mg mb g0) (CH : CodeHd g0 307 305)
    (N : News g0 C.L s.heap (led w C v ++ own)) (hC : C.ok w) (hv : v.ok C own i m) (hown : OwnOff own (adr9 C)) (hi : i ≤ 30)
    
    (hQ : ∀ h' tk m', Fr g0 C.L h' m' → GrownAt 305 h' → Q (.ret (.bool true)) { s with heap := h', toks := tk }) :
    wpAny (model Challenge.rw_np0058_01.row.prog w) (callerA.deeper (envOfC "law" S C.L fa (.ref 307))) (execs bd (envOfC "law" S C.L fa (.ref 307))) Q E s := by
  have hPR : PySem.Challenge.rw_np0058_01 = PySem.Challenge.rw_np0058_01 ∧ Mine.hd.heap_1 = Mine.hd.heap_1 := by
    k_fill
    exact ⟨rfl, rfl⟩
  have hKd := kdMark
  conv at hS => rhs; whnf
  conv at hbd => rhs; whnf
  subst hS hbd
  obtain ⟨k0, k1, k2, k3, k4, k5, k6, k7, k8, k9, k10, k11, k12, k13, k14, k15, t0, t1, t2, t4, t5, t6, t7, t13, j0, j1, j2, j3, j4, j5, j6, u1, u2, u3, u4, u5, u6, ch, dws, dw, xw, dt, xt, dk, dl, L, ow, dn, ys, zs⟩ := C
  obtain ⟨d, dkt, b, st, p, h, bt, stt, pt, ht, we, wl, evs, lvs, en, ln, es, ls, sh, shn, x1, x2, x3, x4, le, ll, les, lls, lem, llm, lv, lvv, lvn, ns, oL, oB, ps, tl⟩ := v
  obtain ⟨off, d0, d1, hdl, hE, hEs, hEl, hL, hLs, hLl, hle, hles, hll, hlls, hsh, hlv, hlvD, n2, n5, nd, n0, hb, he, hl, hoL, hoBx, tab, km⟩ := hv
  obtain ⟨lo, how, nn1, nn2, nn3, nn4, nn5, mm1, mm2, mm3, mm4, mm5, o0, o1, o2, o3, o4, o5, o6, hI, hz⟩ := hC
  dsimp only at *
  have F0 := fr_known _ km F
  have eKm := kst_eqm km
  dsimp only [known, kstB] at F0 eKm
  unfold led at N
  dsimp only [List.cons_append] at N
  refine re_ledA (adr := [dw, dk, L + 1 + 1, L + 1, 305]) [(dw, _), (xw, _), (dt, _), (xt, _), (dws, _), (dk, _), (L + 1 + 1, _), (L + 1, _), (305, _)] (tl ++ own) N (fun _ h => h) (off_app off hown) ?_
  intro tlX hsX hsX' hOffX NX
  clear N F
  dsimp only [List.cons_append, List.nil_append] at NX
  have hT : ∀ p ∈ tl, p ∈ tlX := fun p hp => hsX p (List.mem_append_left _ hp)
  have hO : ∀ p ∈ own, p ∈ tlX := fun p hp => hsX p (List.mem_append_right _ hp)
  have gdl := hT _ hdl
  have gE := hT _ hE
  have gL := hT _ hL
  have gle := hT _ hle
  have gll := hT _ hll
  have gsh := hT _ hsh
  have glv := hT _ hlv
  obtain ⟨bx, hoB0⟩ := hoBx
  have ql1 := hEs.length
  have ql2 := hles.length
  have ql3 := hLs.length
  have ql4 := hlls.length
  (repeat' (first | (k_unfold; (try dsimp only)) | ((( (fail_if_success (with_reducible show wpAny _ _ (newTuple _) _ _ _)); (fail_if_success (with_reducible show wpAny _ _ (exec (Stmt.Try _ _ _ _ _) _) _ _ _)); (fail_if_success (with_reducible show wpAny _ _ (PySem.call (Value.ref 276) _ _) _ _ _)); (fail_if_success (with_reducible show wpAny _ _ (handleBy _ _ _) _ _ _)); (fail_if_success (with_reducible show wpAny _ _ (setFlight _ _) _ _ _)); (fail_if_success (with_reducible show wpAny _ _ (compareOp CmpOp.Eq (Value.ref _) (Value.ref _)) _ _ _)))); walk1) | (dsimp only; (( (fail_if_success (with_reducible show wpAny _ _ (newTuple _) _ _ _)); (fail_if_success (with_reducible show wpAny _ _ (exec (Stmt.Try _ _ _ _ _) _) _ _ _)); (fail_if_success (with_reducible show wpAny _ _ (PySem.call (Value.ref 276) _ _) _ _ _)); (fail_if_success (with_reducible show wpAny _ _ (handleBy _ _ _) _ _ _)); (fail_if_success (with_reducible show wpAny _ _ (setFlight _ _) _ _ _)); (fail_if_success (with_reducible show wpAny _ _ (compareOp CmpOp.Eq (Value.ref _) (Value.ref _)) _ _ _)))); walk1)))
  refine show_same (ded := true) (by k_asm) (by k_asm) (by k_asm) (by k_asm) rfl rfl (by k_asm) (fun z hz b hb => by rw [List.mem_singleton.mp hb]; exact off_cons nn5.symm (off_cons (Nat.ne_of_lt o1) (off_cons (Nat.ne_of_lt (by omega)) (off_cons (Nat.ne_of_lt (by omega)) (fun p hp => hOffX p hp dw (.head _))))) z hz) nn1 nn2 nn3 nn4 lo how ?_
  intro h1 tk1 F1 N1
  (try dsimp only at N1)
  (repeat' (first | (k_unfold; (try dsimp only)) | ((( (fail_if_success (with_reducible show wpAny _ _ (newTuple _) _ _ _)); (fail_if_success (with_reducible show wpAny _ _ (exec (Stmt.Try _ _ _ _ _) _) _ _ _)); (fail_if_success (with_reducible show wpAny _ _ (PySem.call (Value.ref 276) _ _) _ _ _)); (fail_if_success (with_reducible show wpAny _ _ (handleBy _ _ _) _ _ _)); (fail_if_success (with_reducible show wpAny _ _ (setFlight _ _) _ _ _)); (fail_if_success (with_reducible show wpAny _ _ (compareOp CmpOp.Eq (Value.ref _) (Value.ref _)) _ _ _)))); walk1) | (dsimp only; (( (fail_if_success (with_reducible show wpAny _ _ (newTuple _) _ _ _)); (fail_if_success (with_reducible show wpAny _ _ (exec (Stmt.Try _ _ _ _ _) _) _ _ _)); (fail_if_success (with_reducible show wpAny _ _ (PySem.call (Value.ref 276) _ _) _ _ _)); (fail_if_success (with_reducible show wpAny _ _ (handleBy _ _ _) _ _ _)); (fail_if_success (with_reducible show wpAny _ _ (setFlight _ _) _ _ _)); (fail_if_success (with_reducible show wpAny _ _ (compareOp CmpOp.Eq (Value.ref _) (Value.ref _)) _ _ _)))); walk1)))
  refine wpAny_Try_except ?_
  (repeat' (first | (k_unfold; (try dsimp only)) | ((( (fail_if_success (with_reducible show wpAny _ _ (newTuple _) _ _ _)); (fail_if_success (with_reducible show wpAny _ _ (exec (Stmt.Try _ _ _ _ _) _) _ _ _)); (fail_if_success (with_reducible show wpAny _ _ (PySem.call (Value.ref 276) _ _) _ _ _)); (fail_if_success (with_reducible show wpAny _ _ (handleBy _ _ _) _ _ _)); (fail_if_success (with_reducible show wpAny _ _ (setFlight _ _) _ _ _)); (fail_if_success (with_reducible show wpAny _ _ (compareOp CmpOp.Eq (Value.ref _) (Value.ref _)) _ _ _)))); walk1) | (dsimp only; (( (fail_if_success (with_reducible show wpAny _ _ (newTuple _) _ _ _)); (fail_if_success (with_reducible show wpAny _ _ (exec (Stmt.Try _ _ _ _ _) _) _ _ _)); (fail_if_success (with_reducible show wpAny _ _ (PySem.call (Value.ref 276) _ _) _ _ _)); (fail_if_success (with_reducible show wpAny _ _ (handleBy _ _ _) _ _ _)); (fail_if_success (with_reducible show wpAny _ _ (setFlight _ _) _ _ _)); (fail_if_success (with_reducible show wpAny _ _ (compareOp CmpOp.Eq (Value.ref _) (Value.ref _)) _ _ _)))); walk1)))
  refine show_raise (by k_asm) (by k_asm) (by k_asm) (by k_asm) rfl rfl (by k_asm) (fun z hz b hb => by rw [List.mem_singleton.mp hb]; exact off_cons nn5.symm (off_cons (Nat.ne_of_lt o1) (off_cons (Nat.ne_of_lt (by omega)) (off_cons (Nat.ne_of_lt (by omega)) (fun p hp => hOffX p hp dw (.head _))))) z hz) nn1 nn2 nn3 nn4 lo how (by omega) ?_
  intro h4 e te b9 tk4 hfl F4 N4 st9 led9
  (try dsimp only)
  refine wpAny_looks_onW rfl rfl hfl ?_
  intro h5 hh5 sm5
  refine wpAny_landsW hh5 ?_
  intro h6 hfl6 sm6
  obtain ⟨nm9, q9, bs9, sn9, sub9, ab9, col9, dd9, kk0, kk1, kk2, kk3, kk5, hC0⟩ := lisp_cls X
  have F6 : Fr g0 L h6 _ := ⟨sm6.ns (sm5.ns F4.ns), fun b o hb => hfl6.1 b o (st9 b o hb), F4.above⟩
  refine handle_own (nm := nm9) (q := q9) (C := 38) (N := 37) (bs := bs9) (sn := sn9) (sub := sub9) (ab := ab9) (col := col9) (dd := dd9) (k0 := kk0) (k1 := kk1) (k2 := kk2) (k3 := kk3) (k5 := kk5) (newId := "Exception.__new__") (bm := [.type "Exception", .type "BaseException", .type "object"]) (hdct := true) (by rfl) ?_
  walk1
  refine ⟨rfl, F6.keep _ _ hC0, hfl6.there, ?_⟩
  refine lands_againW hfl6 ?_
  intro h7 hfl7 sm7
  have F7 : Fr g0 L h7 _ := ⟨sm7.ns F6.ns, fun b o hb => hfl7.1 b o (st9 b o hb), F4.above⟩
  have N7 : News g0 L h7 _ := fun z hz => ⟨hfl7.1 _ _ (led9 z hz), (N4 z hz).2⟩
  clear N4 N1 F4 F1
  (repeat' (first | (k_unfold; (try dsimp only)) | ((( (fail_if_success (with_reducible show wpAny _ _ (newTuple _) _ _ _)); (fail_if_success (with_reducible show wpAny _ _ (exec (Stmt.Try _ _ _ _ _) _) _ _ _)); (fail_if_success (with_reducible show wpAny _ _ (PySem.call (Value.ref 276) _ _) _ _ _)); (fail_if_success (with_reducible show wpAny _ _ (handleBy _ _ _) _ _ _)); (fail_if_success (with_reducible show wpAny _ _ (setFlight _ _) _ _ _)); (fail_if_success (with_reducible show wpAny _ _ (compareOp CmpOp.Eq (Value.ref _) (Value.ref _)) _ _ _)))); walk1) | (dsimp only; (( (fail_if_success (with_reducible show wpAny _ _ (newTuple _) _ _ _)); (fail_if_success (with_reducible show wpAny _ _ (exec (Stmt.Try _ _ _ _ _) _) _ _ _)); (fail_if_success (with_reducible show wpAny _ _ (PySem.call (Value.ref 276) _ _) _ _ _)); (fail_if_success (with_reducible show wpAny _ _ (handleBy _ _ _) _ _ _)); (fail_if_success (with_reducible show wpAny _ _ (setFlight _ _) _ _ _)); (fail_if_success (with_reducible show wpAny _ _ (compareOp CmpOp.Eq (Value.ref _) (Value.ref _)) _ _ _)))); walk1)))
  refine kup_newTuple (by k_asm) (by k_asm) ?_ (Nat.le_of_ble_eq_true rfl)
  intro tq h8 F8 N8 lt8
  (try k_lt lt8)
  (repeat' (first | (k_unfold; (try dsimp only)) | ((( (fail_if_success (with_reducible show wpAny _ _ (newTuple _) _ _ _)); (fail_if_success (with_reducible show wpAny _ _ (exec (Stmt.Try _ _ _ _ _) _) _ _ _)); (fail_if_success (with_reducible show wpAny _ _ (PySem.call (Value.ref 276) _ _) _ _ _)); (fail_if_success (with_reducible show wpAny _ _ (handleBy _ _ _) _ _ _)); (fail_if_success (with_reducible show wpAny _ _ (setFlight _ _) _ _ _)); (fail_if_success (with_reducible show wpAny _ _ (compareOp CmpOp.Eq (Value.ref _) (Value.ref _)) _ _ _)))); walk1) | (dsimp only; (( (fail_if_success (with_reducible show wpAny _ _ (newTuple _) _ _ _)); (fail_if_success (with_reducible show wpAny _ _ (exec (Stmt.Try _ _ _ _ _) _) _ _ _)); (fail_if_success (with_reducible show wpAny _ _ (PySem.call (Value.ref 276) _ _) _ _ _)); (fail_if_success (with_reducible show wpAny _ _ (handleBy _ _ _) _ _ _)); (fail_if_success (with_reducible show wpAny _ _ (setFlight _ _) _ _ _)); (fail_if_success (with_reducible show wpAny _ _ (compareOp CmpOp.Eq (Value.ref _) (Value.ref _)) _ _ _)))); walk1)))
  refine eq_dat (by k_asm) (row_dat (by walk_at "MINE mem")) (row_dat (by walk_at "MINE mem")) (by rfl) (by rfl) (Nat.le_of_ble_eq_true rfl) rfl ?_
  (repeat' (first | (k_unfold; (try dsimp only)) | ((( (fail_if_success (with_reducible show wpAny _ _ (newTuple _) _ _ _)); (fail_if_success (with_reducible show wpAny _ _ (exec (Stmt.Try _ _ _ _ _) _) _ _ _)); (fail_if_success (with_reducible show wpAny _ _ (PySem.call (Value.ref 276) _ _) _ _ _)); (fail_if_success (with_reducible show wpAny _ _ (handleBy _ _ _) _ _ _)); (fail_if_success (with_reducible show wpAny _ _ (setFlight _ _) _ _ _)); (fail_if_success (with_reducible show wpAny _ _ (compareOp CmpOp.Eq (Value.ref _) (Value.ref _)) _ _ _)))); walk1) | (dsimp only; (( (fail_if_success (with_reducible show wpAny _ _ (newTuple _) _ _ _)); (fail_if_success (with_reducible show wpAny _ _ (exec (Stmt.Try _ _ _ _ _) _) _ _ _)); (fail_if_success (with_reducible show wpAny _ _ (PySem.call (Value.ref 276) _ _) _ _ _)); (fail_if_success (with_reducible show wpAny _ _ (handleBy _ _ _) _ _ _)); (fail_if_success (with_reducible show wpAny _ _ (setFlight _ _) _ _ _)); (fail_if_success (with_reducible show wpAny _ _ (compareOp CmpOp.Eq (Value.ref _) (Value.ref _)) _ _ _)))); walk1)))
  rename Fr g0 L _ _ => kF
  rename News g0 L _ _ => kN
  exact hQ _ _ _ kF (GrownAt.of (ps := ps) kN (by walk_at "MINE mem"))

theorem gen_execs {M : Model} {A : Around} {st : Stmt} {r : List Stmt} {env : Env} {E : Value → Shared → Prop} {Q : Flow → Shared → Prop} {a b d t o} (h : ∀ t, wpAny M A (execs (st :: r) env) Q E { heap := a, gens := b, drawn := d, toks := t, os := o }) : wpAny M A (execs (st :: r) env) Q E { heap := a, gens := b, drawn := d, toks := t, os := o } := h t
theorem bind_l {S : Scope} {L l fa : Nat} (h : (envOfC "law" S L fa (.ref 307)).kindOf (Str.ofString "script") = some .local) : bindL (envOfC "law" S L fa (.ref 307)).kindOf [(Str.ofString "script", Value.ref l)] (fun _ => none) = fun y => if y = Str.ofString "script" then some (Value.ref l) else none := if_pos h
theorem bind_c {S : Scope} {L l fa : Nat} (h : (envOfC "law" S L fa (.ref 307)).kindOf (Str.ofString "script") = some .local) : bindC (envOfC "law" S L fa (.ref 307)).kindOf [(Str.ofString "script", Value.ref l)] (fun _ => none) = fun _ => none := if_pos h
theorem law_walk {w : World} {g0 : Heap} {mg mb : Str → Option Value} {mean : ExcName → Option Value} {loose : List Str} {E : Value → Shared → Prop} {Q : Flow → Shared → Prop} {S : Scope} {bd : List Stmt} {L l fa : Nat} {vs : List Value} {xs : List Int} {c1 c2 : Obj} {mL mC : Str → Option Value} {h0 gs dr tk0 os0}
    (hS : S = lawS) (hbd : bd = fnB lawDef)
    (B : Below callerA g0 [] g0) (F : Fr g0 L h0 mL) (X : (Mine.hd.heap_1 w.params).In g0) (T : Top topProg loose mean mg mb g0) (codeHd : CodeHd g0 307 305)
    (N : News g0 L h0 [(L + 1 + 1, c1), (L + 1, c2), ((305 : Nat), tabObj #[])])
    (left : c1.data = .cell (mC (Str.ofString "live"))) (right : c2.data = .cell (mC (Str.ofString "buffer"))) (X0 : CellsAre mC (cellsFrom (L + 1) S.names []) [(L + 1 + 1, c1), (L + 1, c2)])
    (hmL : mL = bindL (envOfC "law" S L fa (.ref 307)).kindOf [(Str.ofString "script", Value.ref l)] (fun _ => none)) (hmC : mC = bindC (envOfC "law" S L fa (.ref 307)).kindOf [(Str.ofString "script", Value.ref l)] (fun _ => none))
    (lifted : g0.IsList l vs.toArray) (hI : IntsAre vs xs) (hc : ¬ (↑(63 : Nat) : Int) < ↑xs.length) (l0 : 305 < L)
    (hE : PassesOwn (model Challenge.rw_np0058_01.row.prog w) (callerA.deeper (envOfC "law" S L fa (.ref 307))) (envOfC "law" S L fa (.ref 307)) E)
    (hQ : ∀ h' tk m', Fr g0 L h' m' → GrownAt 305 h' → Q (.ret (.bool true)) { heap := h', gens := gs, drawn := dr, toks := tk, os := os0 }) :
    wpAny (model Challenge.rw_np0058_01.row.prog w) (callerA.deeper (envOfC "law" S L fa (.ref 307))) (execs bd (envOfC "law" S L fa (.ref 307))) Q E { heap := h0, gens := gs, drawn := dr, toks := tk0, os := os0 } := by
  have hPR : PySem.Challenge.rw_np0058_01 = PySem.Challenge.rw_np0058_01 ∧ Mine.hd.heap_1 = Mine.hd.heap_1 := by
    k_fill
    exact ⟨rfl, rfl⟩
  have hKd := kdMark
  conv at hS => rhs; whnf
  conv at hbd => rhs; whnf
  subst hS hbd
  rw [hmL, bind_l (by rfl)] at F
  rw [hmC, bind_c (by rfl)] at left right X0
  clear hmL hmC
  w_top on
  (repeat' (first | ((with_reducible show wpAny _ _ (execs _ _) _ _ _); (try dsimp only); refine gen_execs ?_; intro tkz; walk1) | (k_unfold; (try dsimp only)) | ((with_reducible show wpAny _ _ (exec (Stmt.For _ _ _ _ _) _) _ _ _); (rename Fr _ _ _ _ => lF9); refine For_invVF lF9 rfl rfl ?_ (by intro _; rfl) (by assumption)) | ((( (fail_if_success (with_reducible show wpAny _ _ (pyIter _) _ _ _)); (fail_if_success (with_reducible show wpAny _ _ (PySem.call (Value.ref 298) _ _) _ _ _)))); walk1) | (dsimp only; (( (fail_if_success (with_reducible show wpAny _ _ (pyIter _) _ _ _)); (fail_if_success (with_reducible show wpAny _ _ (PySem.call (Value.ref 298) _ _) _ _ _)))); walk1) | (dsimp only; k_unfold; (try dsimp only))))
  refine draw_led (by k_asm) (by k_asm) (by k_asm) (by k_asm) (by k_asm) rfl rfl (by k_room) (by k_updF) (by k_mem) (by k_ne) (by assumption) (by simp only [List.length_map, List.length_take]; omega) (by decide) (by decide) (by decide) (by decide) ?_
  intro rr tr dkt hd tkd r0 r1 Fd Nd
  (try dsimp only at Nd)
  (repeat' (first | ((with_reducible show wpAny _ _ (execs _ _) _ _ _); (try dsimp only); refine gen_execs ?_; intro tkz; walk1) | (k_unfold; (try dsimp only)) | ((with_reducible show wpAny _ _ (exec (Stmt.For _ _ _ _ _) _) _ _ _); (rename Fr _ _ _ _ => lF9); refine For_invVF lF9 rfl rfl ?_ (by intro _; rfl) (by assumption)) | ((( (fail_if_success (with_reducible show wpAny _ _ (pyIter _) _ _ _)); (fail_if_success (with_reducible show wpAny _ _ (PySem.call (Value.ref 298) _ _) _ _ _)))); walk1) | (dsimp only; (( (fail_if_success (with_reducible show wpAny _ _ (pyIter _) _ _ _)); (fail_if_success (with_reducible show wpAny _ _ (PySem.call (Value.ref 298) _ _) _ _ _)))); walk1) | (dsimp only; k_unfold; (try dsimp only))))
  rename IsRange _ _ _ _ _ _ _ _ => hRg
  obtain ⟨rs, rz⟩ := range_facts r0 r1
  refine start_state (by assumption) (by k_asm) codeHd (by assumption) (by simp only [List.length_map, List.length_take]; omega) (by assumption) (by assumption) (by assumption) ⟨_, by assumption⟩ ?km9 
    (by omega)
    (by omega)
    (by omega)
    (by omega)
    (by omega)
    (by omega)
    (by omega)
    (by omega)
    (by omega)
    (by omega)
    (by omega)
    (by omega)
    (by omega)
    (by omega)
    (by omega)
    (by omega)
    (by omega)
    (by omega)
    (by omega)
    (by omega)
    (by omega)
    (by omega)
    (by omega)
    (by omega)
    (by omega)
    (by omega)
    (by omega)
    (by omega)
    (by omega)
    (by omega)
    (by omega)
    (by omega)
    (by omega)
    (by omega)
    (by omega)
    (by first | omega | k_ne | assumption)
    (by first | omega | k_ne | assumption)
    (by first | omega | k_ne | assumption)
     ?kk9
  case km9 =>
    (iterate 6 (refine List.forall_mem_cons.mpr ⟨by rfl, ?_⟩))
    exact List.forall_mem_nil _
  case kk9 =>
  intro hC hv N0
  refine loop_walk (n := (3 + rr).toNat) (by rfl) (by rfl) B (by k_asm) (by k_asm) (by k_asm) codeHd N0 hC hv hRg rs rz (by omega) ?_
  intro v' m' h' tk' ok' F' N'
  (try dsimp only)
  refine end_walk (own := []) (v := v') (by rfl) (by rfl) B F' (by k_asm) (by k_asm) codeHd (by rw [List.append_nil]; exact N') hC ok' (fun _ h => nomatch h) (by omega) ?_
  intro h9 tk9 m9 F9 G9
  exact hQ h9 tk9 m9 F9 G9

theorem whole : PySem.Challenge.rw_np0058_01.Holds := by
  refine holds_law said fun x => ?_
  clear x
  refine holds_open (q := theView) (loose := [Str.ofString "show_buffer"]) (Xt := fun s => xlAt theView [] s && recOk PySem.Challenge.rw_np0058_01.row.records s) (XP := XL theView []) (Yf := (kmHook Mine.hd.heap_1 addrs addrs_eq [305]).obs) (Ya := (kmHook Mine.hd.heap_1 addrs addrs_eq [305]).val) (YP := (kmHook Mine.hd.heap_1 addrs addrs_eq [305]).says) (N := 3904) left (kmHook Mine.hd.heap_1 addrs addrs_eq [305]).of (kmHook Mine.hd.heap_1 addrs addrs_eq [305]).keeps (fun s e => xl_of s (Bool.and_eq_true_iff.mp e).1) XL.keeps (by rfl) (by rfl) (by rfl) (fun s e => recFacts_of (Bool.and_eq_true_iff.mp e).2) (by rfl) (row_said said) (by decide +kernel) ⟨rfl, rfl, rfl, rfl, rfl, by decide +kernel⟩ ?hw ?hc
  case hw => w_witness2
  w_strict (k_go0; (all_goals try k_fold)
            refine law_walk (by rfl) (by rfl) (by k_asm) (by k_asm) (by k_asm) (by k_asm) (by k_asm) (by k_asm) (by assumption) (by assumption) (by assumption) (by rfl) (by rfl) (by assumption) (by assumption) (by assumption) (by assumption) (by passes_own) ?_
            intro h9 tk9 m9 F9 G9
            refine ⟨?_, G9, trivial⟩
            (try dsimp only)
            wrow_close)

end Mine
theorem PySem.Challenge.cw_np0058_01_holds : PySem.Challenge.rw_np0058_01.Holds :=
  Mine.whole
