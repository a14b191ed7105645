import PyProof.Rows.All
import Wide.All
import OpenK.AllK
import Wide.FinOn
import Lean
import PySem.Challenge.RW_pq0288_01
set_option Elab.async false
set_option maxRecDepth 100000
set_option maxHeartbeats 8000000
set_option linter.unusedVariables false
set_option linter.all false
set_option genSizeOf false
set_option genInjectivity false
set_option rowWalk.seconds 0
section
open PySem PySem.Spec PySem.Calls PySem.W PyProof.Rows
local macro_rules | `(tactic| open zzfresh in $ts) => do
  let ren (s : Lean.Syntax) : Lean.MacroM Lean.Syntax := s.replaceM fun x => match x with
    | .ident i r n p => return some (.ident i r (Lean.addMacroScope (← Lean.MonadQuotation.getContext) n (← Lean.MonadQuotation.getCurrMacroScope)) p)
    | _ => return none
  let t ← ts.raw.replaceM fun x => if x.isOfKind ``Lean.Parser.Term.syntheticHole || x.isOfKind ``Lean.Parser.Tactic.caseArg then return some (← ren x) else return none
  `(tactic| ($(⟨t⟩)))
local macro_rules | `(tactic| k_extra $s:str) => do
  if s.getString.startsWith "~" then Lean.Macro.throwUnsupported
  let mut n := 0
  for b in [32, 16, 8, 4, 2, 1] do
    if ← Lean.Macro.hasDecl (Lean.Name.mkStr `Mine ("lay" ++ toString (n + b))) then n := n + b
  let k := Lean.Syntax.mkStrLit ("~L" ++ toString n ++ ":" ++ s.getString)
  `(tactic| k_extra $k)
local macro_rules | `(tactic| l_idx) => `(tactic| k_extra "l_idx")
local macro_rules | `(tactic| k_ne) => `(tactic| k_extra "k_ne")
local macro_rules | `(tactic| top_caught0) => `(tactic| k_extra "top_caught0")
local macro_rules | `(tactic| k_all) => `(tactic| k_extra "k_all")
local macro_rules | `(tactic| k_clsL) => `(tactic| k_extra "k_clsL")
local macro_rules | `(tactic| k_enter) => `(tactic| k_extra "k_enter")
local macro_rules | `(tactic| k_inst) => `(tactic| k_extra "k_inst")
local macro_rules | `(tactic| k_mem) => `(tactic| k_extra "k_mem")
local macro_rules | `(tactic| k_offL) => `(tactic| k_extra "k_offL")
local macro_rules | `(tactic| k_subL) => `(tactic| k_extra "k_subL")
local macro_rules | `(tactic| k_upd) => `(tactic| k_extra "k_upd")
local macro_rules | `(tactic| k_updF) => `(tactic| k_extra "k_updF")
local macro_rules | `(tactic| is_list) => `(tactic| k_extra "is_list")
local macro_rules | `(tactic| ktr_room) => `(tactic| k_extra "ktr_room")
local macro_rules | `(tactic| ktr_units) => `(tactic| k_extra "ktr_units")
local macro_rules | `(tactic| lcg_off) => `(tactic| k_extra "lcg_off")
local macro_rules | `(tactic| tlg_ne) => `(tactic| k_extra "tlg_ne")
local macro_rules | `(tactic| k_lt $_:ident) => `(tactic| k_extra "k_lt")
local macro_rules | `(tactic| walk_at $s:str) => `(tactic| k_extra $s)
local macro_rules | `(tactic| krn_off) => `(tactic| k_extra "~krn_off")
local macro_rules | `(tactic| leaf_len) => `(tactic| k_extra "~leaf_len")
local macro_rules | `(tactic| nest_cls) => `(tactic| k_extra "~nest_cls")
local macro_rules | `(tactic| tb_start) => `(tactic| k_extra "~tb_start")
theorem Mine.words : True := by
  k_with "~w0" => ((simp only [depth_under_make, depth_under_kw, depth_in1, depth_deeper, depth_caller] at *; (try dsimp only [ktrTop] at *); (simp only [recursionLimit] at *); omega))
  k_with "~w1" => (((refine neN ?_); (try dsimp only); first | with_reducible assumption | ((refine Ne.symm ?_); with_reducible assumption) | ((refine Nat.ne_of_lt ?_); with_reducible assumption) | ((refine Nat.ne_of_gt ?_); with_reducible assumption) | omega))
  k_with "~w2" => (exact ground_lt rfl)
  k_with "~w3" => (exact room_of (by assumption) rfl)
  k_with "~w4" => (exact units_of (by assumption) rfl)
  k_with "~w5" => (exact News.isList (by k_asm) (by k_dflt k_mem))
  k_with "~w6" => open zzfresh in ((refine' code_defF ?k1 ?k2 ?k3 ?k4 ?kO ?k5 ?kA ?kF ?kK ?k6 ?k7 ?k8 ?k9 ?kB ?_ ?c2 ?c3 ?c4 ?c5; (case kA => exact rfl); (case kF => exact rfl); (case kK => assumption); (case k1 => k_asm); (case k2 => k_asm); (case k3 => k_asm); (case k4 => k_asm); (case kO => k_asm); (case k5 => k_asm); (case k6 => k_is); (case k7 => k_is); (case k8 => ktr_room); (case k9 => first | exact BindsTo.of_eq rfl | exact binds_K (by k_in) rfl (by k_is) rfl rfl rfl); (case c5 => decide); (case kB => exact locs rfl); (case c2 => exact rfl); (case c3 => exact rfl); (case c4 => exact rfl); k_whole; intro g' L' h' FG' F' N' B' X' T'; (try dsimp only [gapL, rowsL, mksL, mkL, List.cons_append, List.nil_append, List.append_nil] at N'); (try dsimp only); (try k_fold)))
  k_with "~w7" => (first | exact Sub.refl _ | (refine Sub.same ?_; k_subL) | (refine Sub.skip ?_; k_subL))
  k_with "~w8" => open zzfresh in ((k_here; k_dflt (refine' setSlice_K ?k1 ?k2 ?k3 ?k4 ?k5 ?k6 ?k7 ?k8 ?k9 ?k10 ?_; (case k1 => k_asm); (case k2 => k_asm); (case k3 => k_updF); (case k4 => k_mem); (case k5 => assumption); (case k6 => assumption); (case k7 => omega); (case k8 => omega); (case k9 => omega); (case k10 => omega)); intro h' ws' n' F' N' hI'; (try dsimp only at N'); (try k_sweep)))
  k_with "~w9" => open zzfresh in (first | exact Part.whole _ | exact Part.app _ _ | (refine' Part.cons _ ?kp; (case kp => k_clsL)) | (refine' Part.appR _ ?kp; (case kp => k_clsL)))
  k_with "~w10" => (first | exact off_nil _ | exact off_none _ | (refine off_cons ?_ ?_; k_all; k_offL))
  k_with "~w11" => open zzfresh in ((k_here; (with_reducible show wpAny _ _ (call (Value.ref 189) _) _ _ _); k_dflt (refine' Cal.use (gap_size _ _ _ _ ?c1) ?k1 ?k2 ?k3 ?k4 ?k5 ?k6 ?k7 ?kK ?kd ?ku ?_; (case k1 => k_asm); (case k2 => k_asm); (case k3 => k_asm); (case k4 => k_asm); (case k5 => k_clsL); (case k7 => k_asm); (case c1 => assumption); (case k6 => k_offL); (case kK => first | exact rfl | assumption); (case kd => ktr_room); (case ku => ktr_units)); intro r9 h9 tk9 hx9 F9 N9; clear hx9; (try dsimp only [gapL, List.cons_append, List.nil_append, List.append_nil] at N9); (try k_sweep); (try dsimp only); (try k_fold)))
  k_with "~w12" => open zzfresh in ((k_here; (with_reducible show wpAny _ _ (call (Value.ref 203) _) _ _ _); k_dflt (refine' Cal.use (gap_codes _ _ _ _ ?c1 _ _ _ _ ?c2 ?c3 ?c4) ?k1 ?k2 ?k3 ?k4 ?k5 ?k6 ?k7 ?kK ?kd ?ku ?_; (case k1 => k_asm); (case k2 => k_asm); (case k3 => k_asm); (case k4 => k_asm); (case k5 => k_clsL); (case k7 => k_asm); (case c1 => assumption); (case c2 => omega); (case c3 => omega); (case c4 => omega); (case k6 => k_offL); (case kK => first | exact rfl | assumption); (case kd => ktr_room); (case ku => ktr_units)); intro r9 h9 tk9 hx9 F9 N9; (try dsimp only at hx9); obtain ⟨hi9, hl9⟩ := hx9; (try dsimp only [gapL, List.cons_append, List.nil_append, List.append_nil] at hl9); (try k_lt hl9); (try dsimp only [gapL, List.cons_append, List.nil_append, List.append_nil] at N9); (try k_sweep); (try dsimp only); (try k_fold)))
  k_with "~w13" => open zzfresh in ((k_here; (with_reducible show wpAny _ _ (call (Value.ref 210) _) _ _ _); k_dflt (refine' Cal.use (gap_move _ _ ?c0 _ _ ?c1 _ _ ?c2 ?c3) ?k1 ?k2 ?k3 ?k4 ?k5 ?k6 ?k7 ?kK ?kd ?ku ?_; (case k1 => k_asm); (case k2 => k_asm); (case k3 => k_asm); (case k4 => k_asm); (case k5 => k_clsL); (case k7 => k_asm); (case c0 => assumption); (case c1 => assumption); (case c2 => omega); (case c3 => omega); (case k6 => k_offL); (case kK => first | exact rfl | assumption); (case kd => ktr_room); (case ku => ktr_units)); intro r9 h9 tk9 hx9 F9 N9; (try dsimp only at hx9); obtain ⟨hr9, hg9, hd9, cs9, G9, hl9, ht9⟩ := hx9; (have G8 := G9); obtain ⟨gI9, ga9, gb9, gc9, gd9, ge9, gf9⟩ := G8; (try dsimp only [gapL, List.cons_append, List.nil_append, List.append_nil] at N9); (try k_sweep); (try dsimp only); (try k_fold)))
  k_with "~w14" => open zzfresh in ((k_here; (with_reducible show wpAny _ _ (call (Value.ref 217) _) _ _ _); k_dflt (refine' Cal.use (gap_widen _ _ ?c0 _ _ ?c1 _ _ ?c2 ?c3 ?c4) ?k1 ?k2 ?k3 ?k4 ?k5 ?k6 ?k7 ?kK ?kd ?ku ?_; (case k1 => k_asm); (case k2 => k_asm); (case k3 => k_asm); (case k4 => k_asm); (case k5 => k_clsL); (case k7 => k_asm); (case c0 => assumption); (case c1 => assumption); (case c2 => omega); (case c3 => omega); (case c4 => omega); (case k6 => k_offL); (case kK => first | exact rfl | assumption); (case kd => ktr_room); (case ku => ktr_units)); intro r9 h9 tk9 hx9 F9 N9; (try dsimp only at hx9); obtain ⟨hr9, hg9, hd9, cs9, G9, ht9, hl9⟩ := hx9; (have G8 := G9); obtain ⟨gI9, ga9, gb9, gc9, gd9, ge9, gf9⟩ := G8; (have gt9 := txt_len G9); rw [ht9] at gt9; (try dsimp only [gapL, List.cons_append, List.nil_append, List.append_nil] at N9); (try k_sweep); (try dsimp only); (try k_fold)))
  k_with "~w15" => open zzfresh in ((k_here; (with_reducible show wpAny _ _ (call (Value.builtin "sorted") [Value.ref _]) _ _ _); k_dflt (refine' sorted_rows ?h0 ?F ?N ?k ?d ?l ?z ?_; (case h0 => exact rfl); (case F => k_asm); (case N => k_asm); (case k => k_mem); (case d => assumption); (case l => assumption); (case z => exact Nat.le_of_ble_eq_true rfl)); intro D' h' tk' vs' F' N' l1 hI'; (try k_lt l1); (try dsimp only [List.map] at hI'); (try k_sweep)))
  k_with "~w16" => open zzfresh in ((k_here; (with_reducible show wpAny _ _ (call (Value.ref 355) _) _ _ _); k_dflt (refine' Cal.use (mk_numbers _ _ _ _ ?c1 ?c2) ?k1 ?k2 ?k3 ?k4 ?k5 ?k6 ?k7 ?kK ?kd ?ku ?_; (case k1 => k_asm); (case k2 => k_asm); (case k3 => k_asm); (case k4 => k_asm); (case k5 => k_clsL); (case k7 => k_asm); (case c1 => assumption); (case c2 => assumption); (case k6 => k_offL); (case kK => first | exact rfl | assumption); (case kd => ktr_room); (case ku => ktr_units)); intro r9 h9 tk9 hx9 F9 N9; (try dsimp only at hx9); (have hl9 := hx9); clear hx9; (try dsimp only [rowsL, mksL, mkL, List.cons_append, List.nil_append, List.append_nil] at hl9); (try k_lt hl9); (try dsimp only [gapL, rowsL, mksL, mkL, List.cons_append, List.nil_append, List.append_nil] at N9); (try k_sweep); (try dsimp only); (try k_fold)))
  k_with "~w17" => open zzfresh in ((k_here; k_dflt (refine' kda_set (knd := PySem.intKind _ _) ?F ?N ?U ?d (intKind_is _ _ _ _) ?z ?_; (case F => k_asm); (case N => k_asm); (case U => k_updF); (case d => with_reducible assumption); (case z => with_reducible assumption)); intro h' o' F' N' hd'; (try dsimp only at N')))
  k_with "~w18" => open zzfresh in ((refine' code_defF ?k1 ?k2 ?k3 ?k4 ?kO ?k5 ?kA ?kF ?kK ?k6 ?k7 ?k8 ?k9 ?kB ?_ ?c2 ?c3 ?c4 ?c5; (case kA => exact rfl); (case kF => exact rfl); (case kK => assumption); (case k1 => k_asm); (case k2 => k_asm); (case k3 => k_asm); (case k4 => k_asm); (case kO => k_asm); (case k5 => k_asm); (case k6 => k_is); (case k7 => k_is); (case k8 => ktr_room); (case k9 => first | exact BindsTo.of_eq rfl | exact binds_K (by k_in) rfl (by k_is) rfl rfl rfl); (case c5 => decide); (case kB => exact locs rfl); (case c2 => exact rfl); (case c3 => exact rfl); (case c4 => exact rfl); k_whole; intro g' L' h' FG' F' N' B' X' T'; (try dsimp only [gapL, List.cons_append, List.nil_append, List.append_nil] at N'); (try dsimp only); (try k_fold)))
  k_with "~w19" => open zzfresh in ((k_here; (with_reducible show wpAny _ _ (call (Value.ref 355) _) _ _ _); k_dflt (refine' Cal.use (mk_numbers _ _ _ _ ?c1 ?c2) ?k1 ?k2 ?k3 ?k4 ?k5 ?k6 ?k7 ?kK ?kd ?ku ?_; (case k1 => k_asm); (case k2 => k_asm); (case k3 => k_asm); (case k4 => k_asm); (case k5 => k_clsL); (case k7 => k_asm); (case c1 => assumption); (case c2 => assumption); (case k6 => k_offL); (case kK => first | exact rfl | assumption); (case kd => ktr_room); (case ku => ktr_units)); intro r9 h9 tk9 hx9 F9 N9; (try dsimp only at hx9); (have hl9 := hx9); clear hx9; (try dsimp only [List.cons_append, List.nil_append, List.append_nil] at hl9); (try k_lt hl9); (try dsimp only [gapL, List.cons_append, List.nil_append, List.append_nil] at N9); (try k_sweep); (try dsimp only); (try k_fold)))
  k_with "~w20" => open zzfresh in ((refine' code_defF ?k1 ?k2 ?k3 ?k4 ?kO ?k5 ?kA ?kF ?kK ?k6 ?k7 ?k8 ?k9 ?kB ?_ ?c2 ?c3 ?c4 ?c5; (case kA => exact rfl); (case kF => exact rfl); (case kK => assumption); (case k1 => k_asm); (case k2 => k_asm); (case k3 => k_asm); (case k4 => k_asm); (case kO => k_asm); (case k5 => k_asm); (case k6 => k_is); (case k7 => k_is); (case k8 => ktr_room); (case k9 => first | exact BindsTo.of_eq rfl | exact binds_K (by k_in) rfl (by k_is) rfl rfl rfl); (case c5 => decide); (case kB => exact locs rfl); (case c2 => exact rfl); (case c3 => exact rfl); (case c4 => exact rfl); k_whole; intro g' L' h' FG' F' N' B' X' T'; (try dsimp only [bufL, gapL, rowsL, mksL, mkL, List.cons_append, List.nil_append, List.append_nil] at N'); (try dsimp only); (try k_fold)))
  k_with "~w21" => open zzfresh in (first | exact off_nil _ | exact off_none _ | with_reducible assumption | exact off_ofL (by with_reducible assumption) | exact off_ofR (by with_reducible assumption) | (refine' off_appL ?ka ?kb; (case ka => k_offL); (case kb => k_offL)) | (refine' off_appR (b := [_, _, _]) (off_grp (by with_reducible assumption) [1, 0, 8] [3, 2, 4] rfl rfl rfl) ?kb; (case kb => k_offL)) | (refine' off_appR (b := [_, _, _, _, _, _, _, _, _, _, _]) (off_grp (by with_reducible assumption) [1, 0, 8] [6, 5, 7, 10, 9, 12, 11, 14, 13, 16, 15] rfl rfl rfl) ?kb; (case kb => k_offL)) | (refine' off_appR (b := [_, _, _]) (off_grp (by with_reducible assumption) [3, 2, 4] [1, 0, 8] rfl rfl rfl) ?kb; (case kb => k_offL)) | (refine' off_appR (b := [_, _, _, _, _, _, _, _, _, _, _]) (off_grp (by with_reducible assumption) [3, 2, 4] [6, 5, 7, 10, 9, 12, 11, 14, 13, 16, 15] rfl rfl rfl) ?kb; (case kb => k_offL)) | (refine' off_appR (b := [_, _, _]) (off_grp (by with_reducible assumption) [6, 5, 7, 10, 9, 12, 11, 14, 13, 16, 15] [1, 0, 8] rfl rfl rfl) ?kb; (case kb => k_offL)) | (refine' off_appR (b := [_, _, _]) (off_grp (by with_reducible assumption) [6, 5, 7, 10, 9, 12, 11, 14, 13, 16, 15] [3, 2, 4] rfl rfl rfl) ?kb; (case kb => k_offL)) | (refine' off_consR ?ka ?kb; (case ka => k_all); (case kb => k_offL)) | (refine off_cons ?_ ?_; k_all; k_offL))
  k_with "~w22" => open zzfresh in (first | ((with_reducible refine' PartS.split ?kp ?kq); (case kp => k_clsL); (case kq => k_clsL)) | ((with_reducible refine' PartS.one ?kp); (case kp => k_clsL)) | exact Part.whole _ | exact Part.app _ _ | (refine' Part.cons _ ?kp; (case kp => k_clsL)))
  k_with "~w23" => open zzfresh in (first | exact Sub.none _ | exact Sub.refl _ | exact sub_pre _ _ | (refine' sub_app ?kp ?kq; (case kp => k_subL); (case kq => k_subL)) | (refine Sub.skip ?_; k_subL))
  k_with "~w24" => open zzfresh in ((k_here; (with_reducible show wpAny _ _ (call (Value.ref 189) _) _ _ _); k_dflt (refine' Cal.use (gap_size _ _ _ _ ?c1) ?k1 ?k2 ?k3 ?k4 ?k5 ?k6 ?k7 ?kK ?kd ?ku ?_; (case k1 => k_asm); (case k2 => k_asm); (case k3 => k_asm); (case k4 => k_asm); (case k5 => k_clsL); (case k7 => k_asm); (case c1 => with_reducible assumption); (case k6 => k_offL); (case kK => first | exact rfl | assumption); (case kd => ktr_room); (case ku => ktr_units)); intro r9 h9 tk9 hx9 F9 N9; clear hx9; (try dsimp only [gapL, List.cons_append, List.nil_append, List.append_nil] at N9); (try k_sweep); (try dsimp only); (try k_fold)))
  k_with "~w25" => open zzfresh in ((k_here; (with_reducible show wpAny _ _ (call (Value.ref 203) _) _ _ _); k_dflt (refine' Cal.use (gap_codes _ _ _ _ ?c1 _ _ _ _ ?c2 ?c3 ?c4) ?k1 ?k2 ?k3 ?k4 ?k5 ?k6 ?k7 ?kK ?kd ?ku ?_; (case k1 => k_asm); (case k2 => k_asm); (case k3 => k_asm); (case k4 => k_asm); (case k5 => k_clsL); (case k7 => k_asm); (case c1 => with_reducible assumption); (case c2 => omega); (case c3 => omega); (case c4 => omega); (case k6 => k_offL); (case kK => first | exact rfl | assumption); (case kd => ktr_room); (case ku => ktr_units)); intro r9 h9 tk9 hx9 F9 N9; (try dsimp only at hx9); obtain ⟨hi9, hl9⟩ := hx9; (try dsimp only [gapL, List.cons_append, List.nil_append, List.append_nil] at hl9); (try k_lt hl9); (try dsimp only [gapL, List.cons_append, List.nil_append, List.append_nil] at N9); (try k_sweep); (try dsimp only); (try k_fold)))
  k_with "~w26" => open zzfresh in ((k_here; (with_reducible show wpAny _ _ (call (Value.ref 210) _) _ _ _); k_dflt (refine' Cal.use (gap_move _ _ ?c0 _ _ ?c1 _ _ ?c2 ?c3) ?k1 ?k2 ?k3 ?k4 ?k5 ?k6 ?k7 ?kK ?kd ?ku ?_; (case k1 => k_asm); (case k2 => k_asm); (case k3 => k_asm); (case k4 => k_asm); (case k5 => k_clsL); (case k7 => k_asm); (case c0 => with_reducible assumption); (case c1 => with_reducible assumption); (case c2 => omega); (case c3 => omega); (case k6 => k_offL); (case kK => first | exact rfl | assumption); (case kd => ktr_room); (case ku => ktr_units)); intro r9 h9 tk9 hx9 F9 N9; (try dsimp only at hx9); obtain ⟨hr9, hg9, hd9, cs9, G9, hl9, ht9⟩ := hx9; (have G8 := G9); obtain ⟨gI9, ga9, gb9, gc9, gd9, ge9, gf9⟩ := G8; (try dsimp only [gapL, List.cons_append, List.nil_append, List.append_nil] at N9); (try k_sweep); (try dsimp only); (try k_fold)))
  k_with "~w27" => open zzfresh in ((k_here; (with_reducible show wpAny _ _ (call (Value.ref 217) _) _ _ _); k_dflt (refine' Cal.use (gap_widen _ _ ?c0 _ _ ?c1 _ _ ?c2 ?c3 ?c4) ?k1 ?k2 ?k3 ?k4 ?k5 ?k6 ?k7 ?kK ?kd ?ku ?_; (case k1 => k_asm); (case k2 => k_asm); (case k3 => k_asm); (case k4 => k_asm); (case k5 => k_clsL); (case k7 => k_asm); (case c0 => with_reducible assumption); (case c1 => with_reducible assumption); (case c2 => omega); (case c3 => omega); (case c4 => omega); (case k6 => k_offL); (case kK => first | exact rfl | assumption); (case kd => ktr_room); (case ku => ktr_units)); intro r9 h9 tk9 hx9 F9 N9; (try dsimp only at hx9); obtain ⟨hr9, hg9, hd9, cs9, G9, ht9, hl9⟩ := hx9; (have G8 := G9); obtain ⟨gI9, ga9, gb9, gc9, gd9, ge9, gf9⟩ := G8; (have gt9 := txt_len G9); rw [ht9] at gt9; (try dsimp only [gapL, List.cons_append, List.nil_append, List.append_nil] at N9); (try k_sweep); (try dsimp only); (try k_fold)))
  k_with "~w28" => open zzfresh in ((k_here; (with_reducible show wpAny _ _ (call (Value.builtin "sorted") [Value.ref _]) _ _ _); k_dflt (refine' sorted_rows ?h0 ?F ?N ?k ?d ?l ?z ?_; (case h0 => exact rfl); (case F => k_asm); (case N => k_asm); (case k => k_mem); (case d => with_reducible assumption); (case l => with_reducible assumption); (case z => exact Nat.le_of_ble_eq_true rfl)); intro D' h' tk' vs' F' N' l1 hI'; (try k_lt l1); (try dsimp only [List.map] at hI'); (try k_sweep)))
  k_with "~w29" => open zzfresh in ((k_here; (with_reducible show wpAny _ _ (call (Value.ref 355) _) _ _ _); k_dflt (refine' Cal.use (mk_numbers _ _ _ _ ?c1 ?c2) ?k1 ?k2 ?k3 ?k4 ?k5 ?k6 ?k7 ?kK ?kd ?ku ?_; (case k1 => k_asm); (case k2 => k_asm); (case k3 => k_asm); (case k4 => k_asm); (case k5 => k_clsL); (case k7 => k_asm); (case c1 => with_reducible assumption); (case c2 => with_reducible assumption); (case k6 => k_offL); (case kK => first | exact rfl | assumption); (case kd => ktr_room); (case ku => ktr_units)); intro r9 h9 tk9 hx9 F9 N9; (try dsimp only at hx9); (have hl9 := hx9); clear hx9; (try dsimp only [rowsL, mksL, mkL, List.cons_append, List.nil_append, List.append_nil] at hl9); (try k_lt hl9); (try dsimp only [gapL, rowsL, mksL, mkL, List.cons_append, List.nil_append, List.append_nil] at N9); (try k_sweep); (try dsimp only); (try k_fold)))
  k_with "~w30" => open zzfresh in ((k_here; (with_reducible show wpAny _ _ (call (Value.ref 189) _) _ _ _); k_dflt (refine' Cal.useS (gT_size _ _ ?c1) ?k1 ?k2 ?k3 ?k4 ?k5 ?k6 ?k7 ?kK ?kd ?ku ?_; (case k1 => k_asm); (case k2 => k_asm); (case k3 => k_asm); (case k4 => k_asm); (case k5 => k_clsL); (case k7 => k_asm); (case c1 => with_reducible assumption); (case k6 => k_offL); (case kK => first | exact rfl | assumption); (case kd => ktr_room); (case ku => ktr_units)); intro r9 h9 tk9 hx9 F9 N9; clear hx9; (try dsimp only [bufL, gapL, rowsL, mksL, mkL, List.cons_append, List.nil_append, List.append_nil] at N9); (try k_sweep); (try dsimp only); (try k_fold)))
  k_with "~w31" => open zzfresh in ((k_here; (with_reducible show wpAny _ _ (call (Value.ref 203) _) _ _ _); k_dflt (refine' Cal.useS (gT_codes _ _ ?c1 _ _ _ _ ?c2 ?c3 ?c4) ?k1 ?k2 ?k3 ?k4 ?k5 ?k6 ?k7 ?kK ?kd ?ku ?_; (case k1 => k_asm); (case k2 => k_asm); (case k3 => k_asm); (case k4 => k_asm); (case k5 => k_clsL); (case k7 => k_asm); (case c1 => with_reducible assumption); (case c2 => omega); (case c3 => omega); (case c4 => omega); (case k6 => k_offL); (case kK => first | exact rfl | assumption); (case kd => ktr_room); (case ku => ktr_units)); intro r9 h9 tk9 hx9 F9 N9; (try dsimp only at hx9); obtain ⟨hi9, hl9⟩ := hx9; (try dsimp only [bufL, gapL, List.cons_append, List.nil_append, List.append_nil] at hl9); (try k_lt hl9); (try dsimp only [bufL, gapL, rowsL, mksL, mkL, List.cons_append, List.nil_append, List.append_nil] at N9); (try k_sweep); (try dsimp only); (try k_fold)))
  k_with "~w32" => open zzfresh in ((k_here; (with_reducible show wpAny _ _ (call (Value.ref 196) _) _ _ _); k_dflt (refine' Cal.useS (gT_code _ _ ?c0 ?c1 _ _ ?c2 ?c3) ?k1 ?k2 ?k3 ?k4 ?k5 ?k6 ?k7 ?kK ?kd ?ku ?_; (case k1 => k_asm); (case k2 => k_asm); (case k3 => k_asm); (case k4 => k_asm); (case k5 => k_clsL); (case k7 => k_asm); (case c0 => exact BufA.ok.gap (by with_reducible assumption)); (case c1 => with_reducible assumption); (case c2 => omega); (case c3 => omega); (case k6 => k_offL); (case kK => first | exact rfl | assumption); (case kd => ktr_room); (case ku => ktr_units)); intro r9 h9 tk9 hx9 F9 N9; clear hx9; (try dsimp only [bufL, gapL, rowsL, mksL, mkL, List.cons_append, List.nil_append, List.append_nil] at N9); (try k_sweep); (try dsimp only); (try k_fold)))
  k_with "~w33" => open zzfresh in ((k_here; (with_reducible show wpAny _ _ (call (Value.ref 238) _) _ _ _); k_dflt (refine' Cal.useS (gT_put _ _ ?c0 ?c1 _ _ _ _ ?c2 ?c3) ?k1 ?k2 ?k3 ?k4 ?k5 ?k6 ?k7 ?kK ?kd ?ku ?_; (case k1 => k_asm); (case k2 => k_asm); (case k3 => k_asm); (case k4 => k_asm); (case k5 => k_clsL); (case k7 => k_asm); (case c0 => exact BufA.ok.gap (by with_reducible assumption)); (case c1 => with_reducible assumption); (case c2 => omega); (case c3 => omega); (case k6 => k_offL); (case kK => first | exact rfl | assumption); (case kd => ktr_room); (case ku => ktr_units)); intro r9 h9 tk9 hx9 F9 N9; (try dsimp only at hx9); (try dsimp only [bufL, gapL, rowsL, mksL, mkL, List.cons_append, List.nil_append, List.append_nil] at N9); (try k_sweep); (try dsimp only); (try k_fold)))
  k_with "~w34" => open zzfresh in ((k_here; (with_reducible show wpAny _ _ (call (Value.ref 231) _) _ _ _); k_dflt (refine' Cal.useS (gT_delete _ _ ?c0 ?c1 _ _ _ _ ?c2 ?c3 ?c4) ?k1 ?k2 ?k3 ?k4 ?k5 ?k6 ?k7 ?kK ?kd ?ku ?_; (case k1 => k_asm); (case k2 => k_asm); (case k3 => k_asm); (case k4 => k_asm); (case k5 => k_clsL); (case k7 => k_asm); (case c0 => exact BufA.ok.gap (by with_reducible assumption)); (case c1 => with_reducible assumption); (case c2 => omega); (case c3 => omega); (case c4 => omega); (case k6 => k_offL); (case kK => first | exact rfl | assumption); (case kd => ktr_room); (case ku => ktr_units)); intro r9 h9 tk9 hx9 F9 N9; (try dsimp only at hx9); (try dsimp only [bufL, gapL, rowsL, mksL, mkL, List.cons_append, List.nil_append, List.append_nil] at N9); (try k_sweep); (try dsimp only); (try k_fold)))
  k_with "~w35" => open zzfresh in ((k_here; (with_reducible show wpAny _ _ (call (Value.ref 224) _) _ _ _); k_dflt (refine' Cal.useS (gT_insert _ _ ?c0 ?c1 _ _ _ _ _ _ ?c2 ?c3 ?c4 ?c5 ?c6 ?c7 ?c8 ?c9) ?k1 ?k2 ?k3 ?k4 ?k5 ?k6 ?k7 ?kK ?kd ?ku ?_; (case k1 => k_asm); (case k2 => k_asm); (case k3 => k_asm); (case k4 => k_asm); (case k5 => k_clsL); (case k7 => k_asm); (case c0 => exact BufA.ok.gap (by with_reducible assumption)); (case c1 => with_reducible assumption); (case c2 => with_reducible assumption); (case c3 => omega); (case c4 => omega); (case c5 => omega); (case c6 => omega); (case c7 => omega); (case c8 => omega); (case c9 => omega); (case k6 => k_offL); (case kK => first | exact rfl | assumption); (case kd => ktr_room); (case ku => ktr_units)); intro r9 h9 tk9 hx9 F9 N9; (try dsimp only at hx9); (try dsimp only [bufL, gapL, rowsL, mksL, mkL, List.cons_append, List.nil_append, List.append_nil] at N9); (try k_sweep); (try dsimp only); (try k_fold)))
  k_with "~w36" => open zzfresh in ((k_here; (with_reducible show wpAny _ _ (call (Value.ref 503) _) _ _ _); k_dflt ((refine' Cal.useS (bf_touch _ _ ?c0 _) ?k1 ?k2 ?k3 ?k4 ?k5 ?k6 ?k7 ?kK ?kd ?ku ?_; (case k1 => k_asm); (case k2 => k_asm); (case k3 => k_asm); (case k4 => k_asm); (case k5 => k_clsL)); (case k7 => k_asm); (case c0 => with_reducible assumption); (case k6 => k_offL); (case kK => first | exact rfl | assumption); (case kd => ktr_room); (case ku => ktr_units)); intro r9 h9 tk9 hx9 F9 N9; (try dsimp only at hx9); (have hs9 := hx9); obtain ⟨hp9, hb9, hz9⟩ := hx9; (try dsimp only [bufL, gapL, rowsL, mksL, mkL, List.cons_append, List.nil_append, List.append_nil] at N9); (try k_sweep); (try dsimp only); (try k_fold)))
  k_with "~w37" => open zzfresh in ((k_here; (with_reducible show wpAny _ _ (call (Value.ref 454) _) _ _ _); k_dflt ((refine' Cal.useS (bf_size _ _ ?c0 _ _ _ _ ?c1) ?k1 ?k2 ?k3 ?k4 ?k5 ?k6 ?k7 ?kK ?kd ?ku ?_; (case k1 => k_asm); (case k2 => k_asm); (case k3 => k_asm); (case k4 => k_asm); (case k5 => k_clsL)); (case k7 => k_asm); (case c0 => with_reducible assumption); (case c1 => with_reducible assumption); (case k6 => k_offL); (case kK => first | exact rfl | assumption); (case kd => ktr_room); (case ku => ktr_units)); intro r9 h9 tk9 hx9 F9 N9; clear hx9; (try dsimp only [bufL, gapL, rowsL, mksL, mkL, List.cons_append, List.nil_append, List.append_nil] at N9); (try k_sweep); (try dsimp only); (try k_fold)))
  k_with "~w38" => open zzfresh in ((k_here; (with_reducible show wpAny _ _ (call (Value.ref 48) _) _ _ _); k_dflt ((refine' Cal.useS (bf_writable _ _ _) ?k1 ?k2 ?k3 ?k4 ?k5 ?k6 ?k7 ?kK ?kd ?ku ?_; (case k1 => k_asm); (case k2 => k_asm); (case k3 => k_asm); (case k4 => k_asm); (case k5 => k_clsL)); (case k7 => k_asm); (case k6 => k_offL); (case kK => first | exact rfl | assumption); (case kd => ktr_room); (case ku => ktr_units)); intro r9 h9 tk9 hx9 F9 N9; clear hx9; (try dsimp only [bufL, gapL, rowsL, mksL, mkL, List.cons_append, List.nil_append, List.append_nil] at N9); (try k_sweep); (try dsimp only); (try k_fold)))
  k_with "~w39" => open zzfresh in ((k_here; (with_reducible show wpAny _ _ (call (Value.ref 55) _) _ _ _); k_dflt ((refine' Cal.useS (bf_room _ _ ?c0 _ _ _ _ ?c1 _ _ ?c2) ?k1 ?k2 ?k3 ?k4 ?k5 ?k6 ?k7 ?kK ?kd ?ku ?_; (case k1 => k_asm); (case k2 => k_asm); (case k3 => k_asm); (case k4 => k_asm); (case k5 => k_clsL)); (case k7 => k_asm); (case c0 => with_reducible assumption); (case c1 => with_reducible assumption); (case c2 => omega); (case k6 => k_offL); (case kK => first | exact rfl | assumption); (case kd => ktr_room); (case ku => ktr_units)); intro r9 h9 tk9 hx9 F9 N9; clear hx9; (try dsimp only [bufL, gapL, rowsL, mksL, mkL, List.cons_append, List.nil_append, List.append_nil] at N9); (try k_sweep); (try dsimp only); (try k_fold)))
  k_with "~w40" => open zzfresh in ((k_here; (with_reducible show wpAny _ _ (call (Value.ref 62) _) _ _ _); k_dflt ((refine' Cal.useS (bf_reach0 _ _ ?c0 _ _ _ _ _ ?c1 ?c2 ?c3 ?c4) ?k1 ?k2 ?k3 ?k4 ?k5 ?k6 ?k7 ?kK ?kd ?ku ?_; (case k1 => k_asm); (case k2 => k_asm); (case k3 => k_asm); (case k4 => k_asm); (case k5 => k_clsL)); (case k7 => k_asm); (case c0 => with_reducible assumption); (case c1 => omega); (case c2 => omega); (case c3 => omega); (case c4 => omega); (case k6 => k_offL); (case kK => first | exact rfl | assumption); (case kd => ktr_room); (case ku => ktr_units)); intro r9 h9 tk9 hx9 F9 N9; clear hx9; (try dsimp only [bufL, gapL, rowsL, mksL, mkL, List.cons_append, List.nil_append, List.append_nil] at N9); (try k_sweep); (try dsimp only); (try k_fold)))
  k_with "~w41" => open zzfresh in ((k_here; (with_reducible show wpAny _ _ (call (Value.ref 69) _) _ _ _); k_dflt ((refine' Cal.useS (bf_ahead _ _ ?c0 _ _ _ _ _) ?k1 ?k2 ?k3 ?k4 ?k5 ?k6 ?k7 ?kK ?kd ?ku ?_; (case k1 => k_asm); (case k2 => k_asm); (case k3 => k_asm); (case k4 => k_asm); (case k5 => k_clsL)); (case k7 => k_asm); (case c0 => with_reducible assumption); (case k6 => k_offL); (case kK => first | exact rfl | assumption); (case kd => ktr_room); (case ku => ktr_units)); intro r9 h9 tk9 hx9 F9 N9; clear hx9; (try dsimp only [bufL, gapL, rowsL, mksL, mkL, List.cons_append, List.nil_append, List.append_nil] at N9); (try k_sweep); (try dsimp only); (try k_fold)))
  k_with "~w42" => open zzfresh in ((k_here; (with_reducible show wpAny _ _ (call (Value.ref 76) _) _ _ _); k_dflt ((refine' Cal.useS (bf_behind _ _ ?c0 _ _ _ _ _ _ _) ?k1 ?k2 ?k3 ?k4 ?k5 ?k6 ?k7 ?kK ?kd ?ku ?_; (case k1 => k_asm); (case k2 => k_asm); (case k3 => k_asm); (case k4 => k_asm); (case k5 => k_clsL)); (case k7 => k_asm); (case c0 => with_reducible assumption); (case k6 => k_offL); (case kK => first | exact rfl | assumption); (case kd => ktr_room); (case ku => ktr_units)); intro r9 h9 tk9 hx9 F9 N9; (try dsimp only at hx9); (have hs9 := hx9); obtain ⟨hp9, hb9, hz9⟩ := hx9; (try dsimp only at hp9 hb9 hz9); (try dsimp only [bufL, gapL, rowsL, mksL, mkL, List.cons_append, List.nil_append, List.append_nil] at N9); (try k_sweep); (try dsimp only); (try k_fold)))
  k_with "~w43" => open zzfresh in ((k_here; (with_reducible show wpAny _ _ (call (Value.ref 83) _) _ _ _); k_dflt ((refine' Cal.useS (bf_textout _ _ ?c0 _ _ _ _ ?c1 _ _ _ _ ?c2 ?c3 ?c4) ?k1 ?k2 ?k3 ?k4 ?k5 ?k6 ?k7 ?kK ?kd ?ku ?_; (case k1 => k_asm); (case k2 => k_asm); (case k3 => k_asm); (case k4 => k_asm); (case k5 => k_clsL)); (case k7 => k_asm); (case c0 => with_reducible assumption); (case c1 => with_reducible assumption); (case c2 => omega); (case c3 => omega); (case c4 => omega); (case k6 => k_offL); (case kK => first | exact rfl | assumption); (case kd => ktr_room); (case ku => ktr_units)); intro r9 h9 tk9 hx9 F9 N9; (try dsimp only at hx9); obtain ⟨hb9, hz9, hp9, hg9⟩ := hx9; (try dsimp only [bufL, gapL, rowsL, mksL, mkL, List.cons_append, List.nil_append, List.append_nil] at N9); (try k_sweep); (try dsimp only); (try k_fold)))
  k_with "~w44" => open zzfresh in ((k_here; (with_reducible show wpAny _ _ (call (Value.ref 90) _) _ _ _); k_dflt ((refine' Cal.useS (bf_textin _ _ ?c0 _ _ _ _ ?c1 _ _ _ _ _ _ ?c2 ?c3 ?c4 ?c5 ?c6 ?c7 ?c8) ?k1 ?k2 ?k3 ?k4 ?k5 ?k6 ?k7 ?kK ?kd ?ku ?_; (case k1 => k_asm); (case k2 => k_asm); (case k3 => k_asm); (case k4 => k_asm); (case k5 => k_clsL)); (case k7 => k_asm); (case c0 => with_reducible assumption); (case c1 => with_reducible assumption); (case c2 => with_reducible assumption); (case c3 => omega); (case c4 => first | omega | (simp only [List.length_append, List.length_take, List.length_drop]; omega)); (case c5 => omega); (case c6 => omega); (case c7 => omega); (case c8 => with_reducible assumption); (case k6 => k_offL); (case kK => first | exact rfl | assumption); (case kd => ktr_room); (case ku => ktr_units)); intro r9 h9 tk9 hx9 F9 N9; (try dsimp only at hx9); obtain ⟨hb9, hz9, hp9, hg9⟩ := hx9; (try dsimp only [bufL, gapL, rowsL, mksL, mkL, List.cons_append, List.nil_append, List.append_nil] at N9); (try k_sweep); (try dsimp only); (try k_fold)))
  k_with "~w45" => open zzfresh in ((k_here; (with_reducible show wpAny _ _ (call (Value.ref 97) _) _ _ _); k_dflt ((refine' Cal.useS (bf_hungout _ _ ?c0 _ _ _ _ _) ?k1 ?k2 ?k3 ?k4 ?k5 ?k6 ?k7 ?kK ?kd ?ku ?_; (case k1 => k_asm); (case k2 => k_asm); (case k3 => k_asm); (case k4 => k_asm); (case k5 => k_clsL)); (case k7 => k_asm); (case c0 => with_reducible assumption); (case k6 => k_offL); (case kK => first | exact rfl | assumption); (case kd => ktr_room); (case ku => ktr_units)); intro r9 h9 tk9 hx9 F9 N9; clear hx9; (try dsimp only [bufL, gapL, rowsL, mksL, mkL, List.cons_append, List.nil_append, List.append_nil] at N9); (try k_sweep); (try dsimp only); (try k_fold)))
  k_with "~w46" => open zzfresh in ((k_here; (with_reducible show wpAny _ _ (call (Value.ref 104) _) _ _ _); k_dflt ((refine' Cal.useS (bf_hungin _ _ ?c0 _ _ _ _ _ _) ?k1 ?k2 ?k3 ?k4 ?k5 ?k6 ?k7 ?kK ?kd ?ku ?_; (case k1 => k_asm); (case k2 => k_asm); (case k3 => k_asm); (case k4 => k_asm); (case k5 => k_clsL)); (case k7 => k_asm); (case c0 => with_reducible assumption); (case k6 => k_offL); (case kK => first | exact rfl | assumption); (case kd => ktr_room); (case ku => ktr_units)); intro r9 h9 tk9 hx9 F9 N9; clear hx9; (try dsimp only [bufL, gapL, rowsL, mksL, mkL, List.cons_append, List.nil_append, List.append_nil] at N9); (try k_sweep); (try dsimp only); (try k_fold)))
  k_with "~w47" => open zzfresh in ((k_here; (with_reducible show wpAny _ _ (call (Value.ref 383) _) _ _ _); (try (rename News _ _ _ _ => N5; with_reducible (replace N5 := foldB N5))); k_dflt ((refine' Cal.useS (mk_inserted _ _ ?c0 ?c1 _ ?c2 _ _ _ _ _) ?k1 ?k2 ?k3 ?k4 ?k5 ?k6 ?k7 ?kK ?kd ?ku ?_; (case k1 => k_asm); (case k2 => k_asm); (case k3 => k_asm); (case k4 => k_asm); (case k5 => k_clsL)); (case k7 => k_asm); (case c0 => exact BufA.ok.mk (by with_reducible assumption)); (case c1 => with_reducible assumption); (case c2 => with_reducible assumption); (case k6 => k_offL); (case kK => first | exact rfl | assumption); (case kd => ktr_room); (case ku => ktr_units)); intro r9 h9 tk9 hx9 F9 N9; (try dsimp only at hx9); (have hk9 := hx9); (try dsimp only [bufL, gapL, rowsL, mksL, mkL, List.cons_append, List.nil_append, List.append_nil] at N9); (try k_sweep); (try dsimp only); (try k_fold)))
  k_with "~w48" => open zzfresh in ((k_here; (with_reducible show wpAny _ _ (call (Value.ref 390) _) _ _ _); (try (rename News _ _ _ _ => N5; with_reducible (replace N5 := foldB N5))); k_dflt ((refine' Cal.useS (mk_deleted _ _ ?c0 ?c1 _ ?c2 _ _ _ _) ?k1 ?k2 ?k3 ?k4 ?k5 ?k6 ?k7 ?kK ?kd ?ku ?_; (case k1 => k_asm); (case k2 => k_asm); (case k3 => k_asm); (case k4 => k_asm); (case k5 => k_clsL)); (case k7 => k_asm); (case c0 => exact BufA.ok.mk (by with_reducible assumption)); (case c1 => with_reducible assumption); (case c2 => with_reducible assumption); (case k6 => k_offL); (case kK => first | exact rfl | assumption); (case kd => ktr_room); (case ku => ktr_units)); intro r9 h9 tk9 hx9 F9 N9; (try dsimp only at hx9); (have hk9 := hx9); (try dsimp only [bufL, gapL, rowsL, mksL, mkL, List.cons_append, List.nil_append, List.append_nil] at N9); (try k_sweep); (try dsimp only); (try k_fold)))
  k_with "~w49" => open zzfresh in ((k_here; (with_reducible show wpAny _ _ (call (Value.ref 397) _) _ _ _); (try (rename News _ _ _ _ => N5; with_reducible (replace N5 := foldB N5))); k_dflt ((refine' Cal.useS (mk_replaced _ _ ?c0 ?c1 _ ?c2 _ _ _ _ _ _) ?k1 ?k2 ?k3 ?k4 ?k5 ?k6 ?k7 ?kK ?kd ?ku ?_; (case k1 => k_asm); (case k2 => k_asm); (case k3 => k_asm); (case k4 => k_asm); (case k5 => k_clsL)); (case k7 => k_asm); (case c0 => exact BufA.ok.mk (by with_reducible assumption)); (case c1 => with_reducible assumption); (case c2 => with_reducible assumption); (case k6 => k_offL); (case kK => first | exact rfl | assumption); (case kd => ktr_room); (case ku => ktr_units)); intro r9 h9 tk9 hx9 F9 N9; (try dsimp only at hx9); (have hk9 := hx9); (try dsimp only [bufL, gapL, rowsL, mksL, mkL, List.cons_append, List.nil_append, List.append_nil] at N9); (try k_sweep); (try dsimp only); (try k_fold)))
  k_with "~w50" => open zzfresh in ((k_here; (with_reducible show wpAny _ _ (call (Value.ref 62) _) _ _ _); k_dflt ((refine' Cal.useS (bf_reached _ _ ?c0 _ _ _ _ _ ?c1 ?c2 ?c3 ?c4) ?k1 ?k2 ?k3 ?k4 ?k5 ?k6 ?k7 ?kK ?kd ?ku ?_; (case k1 => k_asm); (case k2 => k_asm); (case k3 => k_asm); (case k4 => k_asm); (case k5 => k_clsL)); (case k7 => k_asm); (case c0 => with_reducible assumption); (case c1 => omega); (case c2 => omega); (case c3 => omega); (case c4 => omega); (case k6 => k_offL); (case kK => first | exact rfl | assumption); (case kd => ktr_room); (case ku => ktr_units)); intro r9 h9 tk9 hx9 F9 N9; (try dsimp only at hx9); obtain ⟨el9, eh9, hl9⟩ := hx9; (try dsimp only [bufL, gapL, rowsL, mksL, mkL, List.cons_append, List.nil_append, List.append_nil] at hl9); (try k_lt hl9); (try dsimp only [bufL, gapL, rowsL, mksL, mkL, List.cons_append, List.nil_append, List.append_nil] at N9); (try k_sweep); (try dsimp only); (try k_fold)))
  k_with "~w51" => open zzfresh in ((k_here; (with_reducible show wpAny _ _ (call (Value.ref 111) _) _ _ _); k_dflt ((refine' Cal.useS (bf_putin _ _ ?c0 _ _ _ _ ?c1 _ ?c2 ?c3 _ _ _ _ _ _ ?c4 ?d0 ?d1 ?d2 ?d3 ?d4 ?d5 ?d6 ?d7 _ _ ?d8) ?k1 ?k2 ?k3 ?k4 ?k5 ?k6 ?k7 ?kK ?kd ?ku ?_; (case k1 => k_asm); (case k2 => k_asm); (case k3 => k_asm); (case k4 => k_asm); (case k5 => k_clsL)); (case k7 => k_asm); (case c0 => with_reducible assumption); (case c1 => with_reducible assumption); (case c2 => with_reducible assumption); (case c3 => with_reducible assumption); (case c4 => with_reducible assumption); (case d0 => omega); (case d1 => omega); (case d2 => omega); (case d3 => omega); (case d4 => omega); (case d5 => omega); (case d6 => omega); (case d7 => with_reducible assumption); (case d8 => first | exact fun _ => rfl | exact fun h => Bool.noConfusion h); (case k6 => k_offL); (case kK => first | exact rfl | assumption); (case kd => ktr_room); (case ku => ktr_units)); intro r9 h9 tk9 hx9 F9 N9; (try dsimp only at hx9); obtain ⟨hb9, hz9, hp9, hg9, hk9⟩ := hx9; (try dsimp only [bufL, gapL, rowsL, mksL, mkL, List.cons_append, List.nil_append, List.append_nil] at N9); (try k_sweep); (try dsimp only); (try k_fold)))
  k_with "~w52" => open zzfresh in ((refine' code_defF ?k1 ?k2 ?k3 ?k4 ?kO ?k5 ?kA ?kF ?kK ?k6 ?k7 ?k8 ?k9 ?kB ?_ ?c2 ?c3 ?c4 ?c5; (case kA => exact rfl); (case kF => exact rfl); (case kK => assumption); (case k1 => k_asm); (case k2 => k_asm); (case k3 => k_asm); (case k4 => k_asm); (case kO => k_asm); (case k5 => k_asm); (case k6 => k_is); (case k7 => k_is); (case k8 => first | exact room0 (by assumption) | ktr_room); (case k9 => first | exact BindsTo.of_eq rfl | exact binds_K (by k_in) rfl (by k_is) rfl rfl rfl); (case c5 => decide); (case kB => exact locs rfl); (case c2 => exact rfl); (case c3 => exact rfl); (case c4 => exact rfl); k_whole; intro g' L' h' FG' F' N' B' X' T'; (try dsimp only [pairO] at N'); (try dsimp only); (try k_fold)))
  k_with "~w53" => (first | with_reducible assumption | with_reducible exact Int.le_refl _ | ((with_reducible refine ed_lo ?_); with_reducible assumption) | ((with_reducible refine ed_z1 ?_); with_reducible assumption) | ((with_reducible refine ed_1 ?_ ?_) <;> with_reducible assumption) | ((with_reducible refine ed_d ?_); with_reducible assumption) | ((with_reducible refine ed_s ?_); with_reducible assumption) | decide | omega | (dsimp only; omega))
  k_with "~w54" => (((refine neN ?_); (try dsimp only); first | with_reducible assumption | ((refine Ne.symm ?_); with_reducible assumption) | ((refine Nat.ne_of_lt ?_); with_reducible assumption) | ((refine Nat.ne_of_gt ?_); with_reducible assumption) | ((rename _ ∧ _ => hcj); first | with_reducible exact hcj.1 | with_reducible exact Ne.symm hcj.1 | with_reducible exact Nat.ne_of_lt hcj.1 | with_reducible exact Nat.ne_of_gt hcj.1 | with_reducible exact hcj.2 | with_reducible exact Ne.symm hcj.2 | with_reducible exact Nat.ne_of_lt hcj.2 | with_reducible exact Nat.ne_of_gt hcj.2 | with_reducible exact hcj.2.1 | with_reducible exact Ne.symm hcj.2.1 | with_reducible exact Nat.ne_of_lt hcj.2.1 | with_reducible exact Nat.ne_of_gt hcj.2.1 | with_reducible exact hcj.2.2 | with_reducible exact Ne.symm hcj.2.2 | with_reducible exact Nat.ne_of_lt hcj.2.2 | with_reducible exact Nat.ne_of_gt hcj.2.2 | with_reducible exact hcj.2.2.1 | with_reducible exact Ne.symm hcj.2.2.1 | with_reducible exact Nat.ne_of_lt hcj.2.2.1 | with_reducible exact Nat.ne_of_gt hcj.2.2.1 | with_reducible exact hcj.2.2.2 | with_reducible exact Ne.symm hcj.2.2.2 | with_reducible exact Nat.ne_of_lt hcj.2.2.2 | with_reducible exact Nat.ne_of_gt hcj.2.2.2 | with_reducible exact hcj.2.2.2.1 | with_reducible exact Ne.symm hcj.2.2.2.1 | with_reducible exact Nat.ne_of_lt hcj.2.2.2.1 | with_reducible exact Nat.ne_of_gt hcj.2.2.2.1 | with_reducible exact hcj.1.1 | with_reducible exact Ne.symm hcj.1.1 | with_reducible exact Nat.ne_of_lt hcj.1.1 | with_reducible exact Nat.ne_of_gt hcj.1.1) | omega))
  k_with "~w55" => (first | with_reducible exact ix0 _ | ((with_reducible refine sub1 ?_); with_reducible assumption) | ((with_reducible refine ix63 ?_); with_reducible assumption) | ((with_reducible refine ix5 ?_ ?_) <;> with_reducible assumption) | ((with_reducible refine ixr ?_); with_reducible assumption) | ((with_reducible refine ixr2 ?_ ?_) <;> with_reducible assumption) | ((with_reducible refine ixr63 ?_ ?_) <;> with_reducible assumption))
  k_with "~tb_start" => open zzfresh in (first | with_reducible exact List.mem_cons_self | ((with_reducible refine' List.mem_cons_of_mem _ ?kp); (case kp => tb_start)) | ((with_reducible refine' List.mem_append_left _ ?kp); (case kp => tb_start)) | ((with_reducible refine' List.mem_append_right _ ?kp); (case kp => tb_start)))
  k_with "~w57" => (tb_start)
  k_with "~nest_cls" => open zzfresh in (first | with_reducible exact Sub.refl _ | with_reducible exact sub_pre _ _ | with_reducible exact Sub.none _ | ((with_reducible refine' sub_app ?kp ?kq); (case kp => nest_cls); (case kq => nest_cls)) | ((with_reducible refine' sub_cons ?kp ?kq); (case kp => tb_start); (case kq => nest_cls)) | ((with_reducible refine' sub_l ?kp); (case kp => nest_cls)) | ((with_reducible refine' sub_r ?kp); (case kp => nest_cls)) | ((with_reducible refine' Sub.skip ?kp); (case kp => nest_cls)))
  k_with "~w59" => open zzfresh in (first | (refine' InstAt.of_news ?N ?h1 ?h2; (case N => k_asm); (case h1 => with_reducible refine seg_bx ?hs; nest_cls); (case h2 => with_reducible refine seg_dx ?hs; nest_cls)) | (refine' InstAt.of_news ?N ?h1 ?h2; (case N => k_asm); (case h1 => with_reducible refine seg_kk ?hs; nest_cls); (case h2 => with_reducible refine seg_kd ?hs; nest_cls)) | (refine' InstAt.of_news ?N ?h1 ?h2; (case N => k_asm); (case h1 => with_reducible refine seg_gt ?hs; nest_cls); (case h2 => with_reducible refine seg_gd ?hs; nest_cls)) | (refine' InstAt.of_K ?X ?h1 ?h2; (case X => first | assumption | exact Frag.In.keeps (by k_asm) (Fr.keep (by k_asm))); (case h1 => k_is); (case h2 => k_is)))
  k_with "~leaf_len" => open zzfresh in (first | ((with_reducible refine' Cut.two ?kp ?kq); (case kp => leaf_len); (case kq => leaf_len)) | with_reducible exact Cut.whole _ | with_reducible exact Cut.app _ _ | with_reducible exact Cut.last _ _ | with_reducible exact Cut.pick _ _ | ((with_reducible refine' Cut.inL _ ?kp); (case kp => leaf_len)) | ((with_reducible refine' Cut.inR _ ?kp); (case kp => leaf_len)) | ((with_reducible refine' Cut.cons _ ?kp); (case kp => leaf_len)))
  k_with "~krn_off" => open zzfresh in (first | ((with_reducible refine' Cut.two ?kp ?kq); (case kp => krn_off); (case kq => krn_off)) | with_reducible exact Cut.whole _ | with_reducible exact Cut.app _ _ | with_reducible exact Cut.last _ _ | with_reducible exact Cut.pick _ _ | ((with_reducible refine' Cut.drop _ ?kp); (case kp => krn_off)) | ((with_reducible refine' Cut.dropR ?kp); (case kp => krn_off)) | ((with_reducible refine' Cut.inL _ ?kp); (case kp => krn_off)) | ((with_reducible refine' Cut.inR _ ?kp); (case kp => krn_off)))
  k_with "~w62" => open zzfresh in (first | with_reducible exact List.forall_mem_nil _ | ((with_reducible refine' List.forall_mem_append.mpr ⟨?a, ?b⟩); (case a => tlg_ne); (case b => tlg_ne)) | ((with_reducible refine' List.forall_mem_cons.mpr ⟨?a, ?b⟩); (case a => k_ne); (case b => tlg_ne)) | with_reducible exact hi_buf (by with_reducible assumption) (by with_reducible assumption) | with_reducible exact hi_gap (by with_reducible assumption) (by with_reducible assumption) | with_reducible exact hi_mk (by with_reducible assumption) (by with_reducible assumption) | with_reducible exact lo_buf (by with_reducible assumption) (by with_reducible assumption) | with_reducible exact lo_gap (by with_reducible assumption) (by with_reducible assumption) | with_reducible exact ni_buf (by with_reducible assumption) | with_reducible exact ni_gap (by with_reducible assumption) | with_reducible exact ni_mk (by with_reducible assumption) | with_reducible exact dk_buf (by with_reducible assumption) (by with_reducible assumption) | with_reducible exact dk_gap (by with_reducible assumption) (by with_reducible assumption) | with_reducible exact dk_mk (by with_reducible assumption) (by with_reducible assumption))
  k_with "~w63" => (tlg_ne)
  k_with "~w64" => open zzfresh in (first | with_reducible assumption | ((repeat' (first | with_reducible exact off_nil _ | with_reducible exact off_none _ | with_reducible refine off_appL ?_ ?_ | with_reducible refine off_appR ?_ ?_ | with_reducible refine off_consR ?_ ?_)); (all_goals (first | with_reducible assumption | with_reducible exact off_bg (by with_reducible assumption) | with_reducible exact off_gb (by with_reducible assumption) | with_reducible exact off_bm (by with_reducible assumption) | with_reducible exact off_mb (by with_reducible assumption) | with_reducible exact off_gm (by with_reducible assumption) | with_reducible exact off_mg (by with_reducible assumption) | with_reducible exact offB_at (by with_reducible assumption) | with_reducible exact offG_at (by with_reducible assumption) | with_reducible exact offM_at (by with_reducible assumption) | with_reducible exact offD_at (by with_reducible assumption) | ((with_reducible refine' off_cons ?kp ?kq); (case kp => first | tlg_ne | (refine all_swap ?_; tlg_ne)); (case kq => lcg_off)) | tlg_ne | exact off_ofL (by with_reducible assumption) | exact off_ofR (by with_reducible assumption)))))
  k_with "~w65" => (((rename ∀ (p : Addr × Obj), p ∈ _ → p.1 < _ => h8); ((try (have hi9 := hi_of h8 (by nest_cls))); (try (have lo9 := lo_of h8 (by nest_cls))); (try ((replace h8 := allLt_of h8); simp only [AllLt, allLt_app, and_true] at h8)))))
  k_with "~w66" => (fail)
  k_with "~w67" => open zzfresh in (first | ((with_reducible refine' UpdF.head ?a); (case a => tlg_ne)) | ((with_reducible refine' UpdF.tail ?a ?b); (case a => k_ne); (case b => k_updF)) | ((with_reducible refine' updF_l ?a ?b); (case a => k_updF); (case b => tlg_ne)) | ((with_reducible refine' updF_r ?a ?b); (case a => k_updF); (case b => tlg_ne)))
  k_with "~w68" => open zzfresh in ((k_here; (with_reducible show wpAny _ _ (setAttr (Value.ref _) (PySem.Str.ofString "point") _) _ _ _); k_dflt (refine' buf_set_point ?s1 ?s2 ?s3 ?s4 ?k1 ?k2 ?k3 ?k4 ?k5 ?k6 ?_; (case k1 => k_asm); (case k2 => k_asm); (case k3 => with_reducible assumption); (case k4 => k_asm); (case k5 => leaf_len); (case k6 => lcg_off); (case s1 => k_is); (case s2 => k_is); (case s3 => k_is); (case s4 => k_is)); k_whole; intro h' F' N'; (try dsimp only at N'); (try k_sweep)))
  k_with "~w69" => open zzfresh in ((k_here; (with_reducible show wpAny _ _ (setAttr (Value.ref _) (PySem.Str.ofString "begv") _) _ _ _); k_dflt (refine' buf_set_begv ?s1 ?s2 ?s3 ?s4 ?k1 ?k2 ?k3 ?k4 ?k5 ?k6 ?_; (case k1 => k_asm); (case k2 => k_asm); (case k3 => with_reducible assumption); (case k4 => k_asm); (case k5 => leaf_len); (case k6 => lcg_off); (case s1 => k_is); (case s2 => k_is); (case s3 => k_is); (case s4 => k_is)); k_whole; intro h' F' N'; (try dsimp only at N'); (try k_sweep)))
  k_with "~w70" => open zzfresh in ((k_here; (with_reducible show wpAny _ _ (setAttr (Value.ref _) (PySem.Str.ofString "zv") _) _ _ _); k_dflt (refine' buf_set_zv ?s1 ?s2 ?s3 ?s4 ?k1 ?k2 ?k3 ?k4 ?k5 ?k6 ?_; (case k1 => k_asm); (case k2 => k_asm); (case k3 => with_reducible assumption); (case k4 => k_asm); (case k5 => leaf_len); (case k6 => lcg_off); (case s1 => k_is); (case s2 => k_is); (case s3 => k_is); (case s4 => k_is)); k_whole; intro h' F' N'; (try dsimp only at N'); (try k_sweep)))
  k_with "~w71" => (with_reducible assumption)
  k_with "~w72" => open zzfresh in ((refine' InstAt.of_news ?N ?h1 ?h2; (case N => k_asm); (case h1 => tb_start); (case h2 => tb_start)))
  k_with "~w73" => (((rename ∀ (p : Addr × Obj), p ∈ _ → p.1 < _ => h8); ((try (have mh9 := mks_hi h8 (by nest_cls))); clear h8)))
  k_with "~w74" => (with_reducible exact off_rm (by with_reducible assumption))
  k_with "~w75" => open zzfresh in ((k_here; (with_reducible show wpAny _ _ (call (Value.ref 355) _) _ _ _); k_dflt ((refine' Cal.useC (mk_numbers _ _ _ _ ?c1 ?c2) ?k1 ?k2 ?k3 ?k4 ?k5 ?k6 ?k7 ?kK ?kd ?ku ?_; (case k1 => k_asm); (case k2 => k_asm); (case k3 => k_asm); (case k4 => k_asm); (case k5 => leaf_len)); (case k7 => k_asm); (case c1 => with_reducible assumption); (case c2 => with_reducible assumption); (case k6 => lcg_off); (case kK => first | exact rfl | assumption); (case kd => ktr_room); (case ku => ktr_units)); intro r9 h9 tk9 hx9 F9 N9; (try dsimp only [pairO] at N9); (try dsimp only at hx9); (have mh9 := mks_hi hx9 (by nest_cls)); clear hx9; (try dsimp only [rowsL, List.cons_append, List.nil_append] at N9); (try k_sweep); (try dsimp only); (try k_fold)))
  k_with "~w76" => (((rename Fr _ _ _ _ => lF'); (rename News _ _ _ _ => lN'); (with_unfolding_all refine iter_listUnr (vs := [Value.int 0 _, Value.int 1 _, Value.int 2 _, Value.int 3 _]) (by rfl) lF' lN' (by tb_start) (by rfl) (by rfl) ?_); clear lF'; intro i' l1; (have mh9 := mks_hi l1 (by nest_cls)); (have hn9 := four_ne l1); clear l1))
  k_with "~w77" => open zzfresh in ((k_dflt (refine' unr_cut7 ?F ?N ?o ?M ?I ⟨List.mem_cons_self, ?_⟩; (case F => k_asm); (case N => k_asm); (case o => with_reducible assumption); (case M => with_reducible assumption); (case I => with_reducible assumption))))
  k_with "~w78" => open zzfresh in ((k_here; k_dflt (refine' mk_set ?s1 ?s2 ?s3 ?s4 ?k1 ?k2 ?k3 ?k4 ?k5 ?_; (case k1 => k_asm); (case k2 => k_asm); (case k3 => k_asm); (case k4 => with_reducible assumption); (case k5 => with_reducible assumption); (case s1 => k_is); (case s2 => k_is); (case s3 => k_is); (case s4 => k_is)); k_whole; intro h' F' N'; (try dsimp only at N'); (try k_sweep)))
  k_with "~w79" => open zzfresh in ((k_here; (with_reducible show wpAny _ _ (call (Value.ref 48) _) _ _ _); k_dflt ((refine' Cal.useC (bf_writable _ _ _) ?k1 ?k2 ?k3 ?k4 ?k5 ?k6 ?k7 ?kK ?kd ?ku ?_; (case k1 => k_asm); (case k2 => k_asm); (case k3 => k_asm); (case k4 => k_asm); (case k5 => leaf_len)); (case k7 => k_asm); (case k6 => lcg_off); (case kK => first | exact rfl | assumption); (case kd => ktr_room); (case ku => ktr_units)); intro r9 h9 tk9 hx9 F9 N9; (try dsimp only [pairO] at N9); clear hx9; (try k_sweep); (try dsimp only); (try k_fold)))
  k_with "~w80" => open zzfresh in ((k_here; (with_reducible show wpAny _ _ (call (Value.ref 55) _) _ _ _); k_dflt ((refine' Cal.useC (bf_room _ _ ?c0 _ _ _ _ ?c1 _ _ ?c2) ?k1 ?k2 ?k3 ?k4 ?k5 ?k6 ?k7 ?kK ?kd ?ku ?_; (case k1 => k_asm); (case k2 => k_asm); (case k3 => k_asm); (case k4 => k_asm); (case k5 => leaf_len)); (case k7 => k_asm); (case c0 => with_reducible assumption); (case c1 => with_reducible assumption); (case c2 => top_caught0); (case k6 => lcg_off); (case kK => first | exact rfl | assumption); (case kd => ktr_room); (case ku => ktr_units)); intro r9 h9 tk9 hx9 F9 N9; (try dsimp only [pairO] at N9); clear hx9; (try k_sweep); (try dsimp only); (try k_fold)))
  k_with "~w81" => open zzfresh in ((k_here; (with_reducible show wpAny _ _ (call (Value.ref 62) _) _ _ _); k_dflt ((refine' Cal.useC (bf_reach0 _ _ ?c0 _ _ _ _ _ ?c1 ?c2 ?c3 ?c4) ?k1 ?k2 ?k3 ?k4 ?k5 ?k6 ?k7 ?kK ?kd ?ku ?_; (case k1 => k_asm); (case k2 => k_asm); (case k3 => k_asm); (case k4 => k_asm); (case k5 => leaf_len)); (case k7 => k_asm); (case c0 => with_reducible assumption); (case c1 => top_caught0); (case c2 => top_caught0); (case c3 => top_caught0); (case c4 => top_caught0); (case k6 => lcg_off); (case kK => first | exact rfl | assumption); (case kd => ktr_room); (case ku => ktr_units)); intro r9 h9 tk9 hx9 F9 N9; (try dsimp only [pairO] at N9); clear hx9; (try k_sweep); (try dsimp only); (try k_fold)))
  k_with "~w82" => open zzfresh in ((k_here; (with_reducible show wpAny _ _ (call (Value.ref 69) _) _ _ _); k_dflt ((refine' Cal.useC (bf_ahead _ _ ?c0 _ _ _ _ _) ?k1 ?k2 ?k3 ?k4 ?k5 ?k6 ?k7 ?kK ?kd ?ku ?_; (case k1 => k_asm); (case k2 => k_asm); (case k3 => k_asm); (case k4 => k_asm); (case k5 => leaf_len)); (case k7 => k_asm); (case c0 => with_reducible assumption); (case k6 => lcg_off); (case kK => first | exact rfl | assumption); (case kd => ktr_room); (case ku => ktr_units)); intro r9 h9 tk9 hx9 F9 N9; (try dsimp only [pairO] at N9); clear hx9; (try k_sweep); (try dsimp only); (try k_fold)))
  k_with "~w83" => open zzfresh in ((k_here; (with_reducible show wpAny _ _ (call (Value.ref 76) _) _ _ _); k_dflt ((refine' Cal.useC (bf_behind _ _ ?c0 _ _ _ _ _ _ _) ?k1 ?k2 ?k3 ?k4 ?k5 ?k6 ?k7 ?kK ?kd ?ku ?_; (case k1 => k_asm); (case k2 => k_asm); (case k3 => k_asm); (case k4 => k_asm); (case k5 => leaf_len)); (case k7 => k_asm); (case c0 => with_reducible assumption); (case k6 => lcg_off); (case kK => first | exact rfl | assumption); (case kd => ktr_room); (case ku => ktr_units)); intro r9 h9 tk9 hx9 F9 N9; (try dsimp only [pairO] at N9); (try dsimp only at hx9); (have hs9 := hx9); obtain ⟨hp9, hb9, hz9⟩ := hx9; (try dsimp only at hp9 hb9 hz9); (try k_sweep); (try dsimp only); (try k_fold)))
  k_with "~w84" => open zzfresh in ((k_here; (with_reducible show wpAny _ _ (call (Value.ref 83) _) _ _ _); k_dflt ((refine' Cal.useC (bf_textout _ _ ?c0 _ _ _ _ ?c1 _ _ _ _ ?c2 ?c3 ?c4) ?k1 ?k2 ?k3 ?k4 ?k5 ?k6 ?k7 ?kK ?kd ?ku ?_; (case k1 => k_asm); (case k2 => k_asm); (case k3 => k_asm); (case k4 => k_asm); (case k5 => leaf_len)); (case k7 => k_asm); (case c0 => with_reducible assumption); (case c1 => with_reducible assumption); (case c2 => top_caught0); (case c3 => top_caught0); (case c4 => top_caught0); (case k6 => lcg_off); (case kK => first | exact rfl | assumption); (case kd => ktr_room); (case ku => ktr_units)); intro r9 h9 tk9 hx9 F9 N9; (try dsimp only [pairO] at N9); (try dsimp only at hx9); obtain ⟨hb9, hz9, hp9, hg9⟩ := hx9; (try k_sweep); (try dsimp only); (try k_fold)))
  k_with "~w85" => open zzfresh in ((k_here; (with_reducible show wpAny _ _ (call (Value.ref 90) _) _ _ _); k_dflt ((refine' Cal.useC (bf_textin _ _ ?c0 _ _ _ _ ?c1 _ _ _ _ _ _ ?c2 ?c3 ?c4 ?c5 ?c6 ?c7) ?k1 ?k2 ?k3 ?k4 ?k5 ?k6 ?k7 ?kK ?kd ?ku ?_; (case k1 => k_asm); (case k2 => k_asm); (case k3 => k_asm); (case k4 => k_asm); (case k5 => leaf_len)); (case k7 => k_asm); (case c0 => with_reducible assumption); (case c1 => with_reducible assumption); (case c2 => with_reducible assumption); (case c3 => top_caught0); (case c4 => first | omega | (simp only [List.length_append, List.length_take, List.length_drop]; omega)); (case c5 => top_caught0); (case c6 => top_caught0); (case c7 => first | with_reducible assumption | exact ni_of (by with_reducible assumption) (by with_reducible assumption)); (case k6 => lcg_off); (case kK => first | exact rfl | assumption); (case kd => ktr_room); (case ku => ktr_units)); intro r9 h9 tk9 hx9 F9 N9; (try dsimp only [pairO] at N9); (try dsimp only at hx9); obtain ⟨hb9, hz9, hp9, hg9⟩ := hx9; (try k_sweep); (try dsimp only); (try k_fold)))
  k_with "~w86" => open zzfresh in ((k_here; (with_reducible show wpAny _ _ (call (Value.ref 97) _) _ _ _); k_dflt ((refine' Cal.useC (bf_hungout _ _ ?c0 _ _ _ _ _) ?k1 ?k2 ?k3 ?k4 ?k5 ?k6 ?k7 ?kK ?kd ?ku ?_; (case k1 => k_asm); (case k2 => k_asm); (case k3 => k_asm); (case k4 => k_asm); (case k5 => leaf_len)); (case k7 => k_asm); (case c0 => with_reducible assumption); (case k6 => lcg_off); (case kK => first | exact rfl | assumption); (case kd => ktr_room); (case ku => ktr_units)); intro r9 h9 tk9 hx9 F9 N9; (try dsimp only [pairO] at N9); clear hx9; (try k_sweep); (try dsimp only); (try k_fold)))
  k_with "~w87" => open zzfresh in ((k_here; (with_reducible show wpAny _ _ (call (Value.ref 104) _) _ _ _); k_dflt ((refine' Cal.useC (bf_hungin _ _ ?c0 _ _ _ _ _ _) ?k1 ?k2 ?k3 ?k4 ?k5 ?k6 ?k7 ?kK ?kd ?ku ?_; (case k1 => k_asm); (case k2 => k_asm); (case k3 => k_asm); (case k4 => k_asm); (case k5 => leaf_len)); (case k7 => k_asm); (case c0 => with_reducible assumption); (case k6 => lcg_off); (case kK => first | exact rfl | assumption); (case kd => ktr_room); (case ku => ktr_units)); intro r9 h9 tk9 hx9 F9 N9; (try dsimp only [pairO] at N9); clear hx9; (try k_sweep); (try dsimp only); (try k_fold)))
  k_with "~w88" => open zzfresh in ((k_here; (with_reducible show wpAny _ _ (call (Value.ref 383) _) _ _ _); k_dflt ((refine' Cal.useC (mk_inserted _ _ ?c0 ?c1 _ ?c2 _ _ _ _ _) ?k1 ?k2 ?k3 ?k4 ?k5 ?k6 ?k7 ?kK ?kd ?ku ?_; (case k1 => k_asm); (case k2 => k_asm); (case k3 => k_asm); (case k4 => k_asm); (case k5 => leaf_len)); (case k7 => k_asm); (case c0 => exact BufA.ok.mk (by with_reducible assumption)); (case c1 => first | with_reducible assumption | exact sys_rows (by with_reducible assumption)); (case c2 => with_reducible assumption); (case k6 => lcg_off); (case kK => first | exact rfl | assumption); (case kd => ktr_room); (case ku => ktr_units)); intro r9 h9 tk9 hx9 F9 N9; (try dsimp only [pairO] at N9); (try dsimp only at hx9); (have hk9 := hx9); (try k_sweep); (try dsimp only); (try k_fold)))
  k_with "~w89" => open zzfresh in ((k_here; (with_reducible show wpAny _ _ (call (Value.ref 390) _) _ _ _); k_dflt ((refine' Cal.useC (mk_deleted _ _ ?c0 ?c1 _ ?c2 _ _ _ _) ?k1 ?k2 ?k3 ?k4 ?k5 ?k6 ?k7 ?kK ?kd ?ku ?_; (case k1 => k_asm); (case k2 => k_asm); (case k3 => k_asm); (case k4 => k_asm); (case k5 => leaf_len)); (case k7 => k_asm); (case c0 => exact BufA.ok.mk (by with_reducible assumption)); (case c1 => first | with_reducible assumption | exact sys_rows (by with_reducible assumption)); (case c2 => with_reducible assumption); (case k6 => lcg_off); (case kK => first | exact rfl | assumption); (case kd => ktr_room); (case ku => ktr_units)); intro r9 h9 tk9 hx9 F9 N9; (try dsimp only [pairO] at N9); (try dsimp only at hx9); (have hk9 := hx9); (try k_sweep); (try dsimp only); (try k_fold)))
  k_with "~w90" => open zzfresh in ((k_here; (with_reducible show wpAny _ _ (call (Value.ref 397) _) _ _ _); k_dflt ((refine' Cal.useC (mk_replaced _ _ ?c0 ?c1 _ ?c2 _ _ _ _ _ _) ?k1 ?k2 ?k3 ?k4 ?k5 ?k6 ?k7 ?kK ?kd ?ku ?_; (case k1 => k_asm); (case k2 => k_asm); (case k3 => k_asm); (case k4 => k_asm); (case k5 => leaf_len)); (case k7 => k_asm); (case c0 => exact BufA.ok.mk (by with_reducible assumption)); (case c1 => first | with_reducible assumption | exact sys_rows (by with_reducible assumption)); (case c2 => with_reducible assumption); (case k6 => lcg_off); (case kK => first | exact rfl | assumption); (case kd => ktr_room); (case ku => ktr_units)); intro r9 h9 tk9 hx9 F9 N9; (try dsimp only [pairO] at N9); (try dsimp only at hx9); (have hk9 := hx9); (try k_sweep); (try dsimp only); (try k_fold)))
  k_with "~w91" => open zzfresh in (first | with_reducible assumption | ((repeat' (first | with_reducible exact off_nil _ | with_reducible exact off_none _ | with_reducible refine off_appL ?_ ?_ | with_reducible refine off_appR ?_ ?_ | with_reducible refine off_consR ?_ ?_)); (all_goals (first | with_reducible assumption | with_reducible exact off_br (by with_reducible assumption) | with_reducible exact off_rb (by with_reducible assumption) | with_reducible exact off_gr (by with_reducible assumption) | with_reducible exact off_rg (by with_reducible assumption) | with_reducible exact off_bg (by with_reducible assumption) | with_reducible exact off_gb (by with_reducible assumption) | with_reducible exact off_bm (by with_reducible assumption) | with_reducible exact off_mb (by with_reducible assumption) | with_reducible exact off_gm (by with_reducible assumption) | with_reducible exact off_mg (by with_reducible assumption) | with_reducible exact offB_at (by with_reducible assumption) | with_reducible exact offG_at (by with_reducible assumption) | with_reducible exact offM_at (by with_reducible assumption) | with_reducible exact offD_at (by with_reducible assumption) | ((with_reducible refine' off_cons ?kp ?kq); (case kp => first | tlg_ne | (refine all_swap ?_; tlg_ne)); (case kq => lcg_off)) | tlg_ne | exact off_ofL (by with_reducible assumption) | exact off_ofR (by with_reducible assumption)))))
  k_with "~w92" => open zzfresh in (first | with_reducible exact List.forall_mem_nil _ | ((with_reducible refine' List.forall_mem_append.mpr ⟨?a, ?b⟩); (case a => tlg_ne); (case b => tlg_ne)) | ((with_reducible refine' List.forall_mem_cons.mpr ⟨?a, ?b⟩); (case a => k_ne); (case b => tlg_ne)) | with_reducible exact hi_buf (by with_reducible assumption) (by with_reducible assumption) | with_reducible exact hi_gap (by with_reducible assumption) (by with_reducible assumption) | with_reducible exact hi_mk (by with_reducible assumption) (by with_reducible assumption) | with_reducible exact lo_buf (by with_reducible assumption) (by with_reducible assumption) | with_reducible exact lo_gap (by with_reducible assumption) (by with_reducible assumption) | with_reducible exact ni_rows (by with_reducible assumption) | with_reducible exact lo_rows (by with_reducible assumption) (by with_reducible assumption) | with_reducible exact ni_buf (by with_reducible assumption) | with_reducible exact ni_gap (by with_reducible assumption) | with_reducible exact ni_mk (by with_reducible assumption) | with_reducible exact dk_buf (by with_reducible assumption) (by with_reducible assumption) | with_reducible exact dk_gap (by with_reducible assumption) (by with_reducible assumption) | with_reducible exact dk_mk (by with_reducible assumption) (by with_reducible assumption))
  k_with "~w93" => open zzfresh in ((refine' InstAt.of_news ?N ?h1 ?h2; (case N => k_asm); (case h1 => with_reducible refine seg_kkr ?hs; nest_cls); (case h2 => with_reducible refine seg_kdr ?hs; nest_cls)))
  k_with "~w94" => open zzfresh in ((k_here; (with_reducible show wpAny _ _ (call (Value.ref 454) _) _ _ _); k_dflt ((refine' Cal.useC (bf_size _ _ ?c0 _ _ _ _ ?c1) ?k1 ?k2 ?k3 ?k4 ?k5 ?k6 ?k7 ?kK ?kd ?ku ?_; (case k1 => k_asm); (case k2 => k_asm); (case k3 => k_asm); (case k4 => k_asm); (case k5 => leaf_len)); (case k7 => k_asm); (case c0 => with_reducible assumption); (case c1 => with_reducible assumption); (case k6 => lcg_off); (case kK => first | exact rfl | assumption); (case kd => ktr_room); (case ku => ktr_units)); intro r9 h9 tk9 hx9 F9 N9; (try dsimp only [pairO] at N9); clear hx9; (try k_sweep); (try dsimp only); (try k_fold)))
  k_with "~w95" => open zzfresh in ((k_here; (with_reducible show wpAny _ _ (call (Value.ref 362) _) _ _ _); k_dflt ((refine' Cal.useC (mk_put1 _ _ _ _ _ ?c0 ?c1 _ _ _ _ _ _ _ _ _ _ _ _ _ _ ?a1 ?a2 ?a3 ?a4) ?k1 ?k2 ?k3 ?k4 ?k5 ?k6 ?k7 ?kK ?kd ?ku ?_; (case k1 => k_asm); (case k2 => k_asm); (case k3 => k_asm); (case k4 => k_asm); (case k5 => leaf_len)); (case k7 => k_asm); (case c0 => with_reducible assumption); (case c1 => with_reducible assumption); (case a1 => with_reducible assumption); (case a2 => with_reducible assumption); (case a3 => with_reducible assumption); (case a4 => with_reducible assumption); (case k6 => lcg_off); (case kK => first | exact rfl | assumption); (case kd => ktr_room); (case ku => ktr_units)); intro r9 h9 tk9 hx9 F9 N9; (try dsimp only [pairO] at N9); (try dsimp only at hx9); obtain ⟨hx8, hx7, hx6, hd9⟩ := hx9; (try k_sweep); (try dsimp only); (try k_fold)))
  k_with "~w96" => open zzfresh in ((k_here; (with_reducible show wpAny _ _ (call (Value.ref 355) _) _ _ _); k_dflt (refine' Cal.use (mk_numbers0 _ _ _ _ ?c1 ?c2) ?k1 ?k2 ?k3 ?k4 ?k5 ?k6 ?k7 ?kK ?kd ?ku ?_; (case k1 => k_asm); (case k2 => k_asm); (case k3 => k_asm); (case k4 => k_asm); (case k5 => k_clsL); (case k7 => k_asm); (case c1 => assumption); (case c2 => assumption); (case k6 => k_offL); (case kK => first | exact rfl | assumption); (case kd => ktr_room); (case ku => ktr_units)); intro r9 h9 tk9 hx9 F9 N9; (try dsimp only at hx9); (have hl9 := hx9); clear hx9; (try dsimp only [rowsL, mksL, mkL, List.cons_append, List.nil_append, List.append_nil] at hl9); (try k_lt hl9); (try dsimp only [gapL, rowsL, mksL, mkL, List.cons_append, List.nil_append, List.append_nil] at N9); (try k_sweep); (try dsimp only); (try k_fold)))
  k_with "~w97" => open zzfresh in ((k_here; (with_reducible show wpAny _ _ (call (Value.ref 383) _) _ _ _); k_dflt ((refine' Cal.useC (mk_inserted0 _ _ ?c0 ?c1 _ _ ?c2 _ _ _ _ _) ?k1 ?k2 ?k3 ?k4 ?k5 ?k6 ?k7 ?kK ?kd ?ku ?_; (case k1 => k_asm); (case k2 => k_asm); (case k3 => k_asm); (case k4 => k_asm); (case k5 => leaf_len)); (case k7 => k_asm); (case c0 => exact BufA.ok.mk (by with_reducible assumption)); (case c1 => first | with_reducible assumption | exact sys_rows (by with_reducible assumption)); (case c2 => with_reducible assumption); (case k6 => lcg_off); (case kK => first | exact rfl | assumption); (case kd => ktr_room); (case ku => ktr_units)); intro r9 h9 tk9 hx9 F9 N9; (try dsimp only [pairO] at N9); clear hx9; (try k_sweep); (try dsimp only); (try k_fold)))
  k_with "~w98" => open zzfresh in ((k_here; (with_reducible show wpAny _ _ (call (Value.ref 111) _) _ _ _); k_dflt ((refine' Cal.useC (bf_putin0 _ _ ?c0 _ _ _ _ ?c1 _ _ ?c2 _ _ _ _ _ _ ?c4 ?d0 ?d1 ?d2 ?d3 ?d4 ?d5 ?d6 ?d7) ?k1 ?k2 ?k3 ?k4 ?k5 ?k6 ?k7 ?kK ?kd ?ku ?_; (case k1 => k_asm); (case k2 => k_asm); (case k3 => k_asm); (case k4 => k_asm); (case k5 => leaf_len)); (case k7 => k_asm); (case c0 => with_reducible assumption); (case c1 => with_reducible assumption); (case c2 => with_reducible assumption); (case c4 => with_reducible assumption); (case d0 => top_caught0); (case d1 => top_caught0); (case d2 => top_caught0); (case d3 => top_caught0); (case d4 => top_caught0); (case d5 => first | with_reducible assumption | omega | (simp only [List.length_map, rangeKs_length]; omega) | (simp only [List.length_append, List.length_take, List.length_drop]; omega)); (case d6 => first | with_reducible assumption | exact ni_of (by with_reducible assumption) (by with_reducible assumption)); (case d7 => top_caught0); (case k6 => lcg_off); (case kK => first | exact rfl | assumption); (case kd => ktr_room); (case ku => ktr_units)); intro r9 h9 tk9 hx9 F9 N9; (try dsimp only [pairO] at N9); (try dsimp only at hx9); obtain ⟨hb9, hz9, hp9, hg9⟩ := hx9; (try k_sweep); (try dsimp only); (try k_fold)))
  k_with "~w99" => (first | exact units_of (by assumption) rfl | exact units_ofI (by assumption) rfl)
  k_with "~w100" => open zzfresh in ((k_here; (with_reducible show wpAny _ _ (call (Value.ref 255) _) _ _ _); k_dflt ((refine' Cal.useC (lw_gaptext _ _ _ _ _ ?c1 ?c2) ?k1 ?k2 ?k3 ?k4 ?k5 ?k6 ?k7 ?kK ?kd ?ku ?_; (case k1 => k_asm); (case k2 => k_asm); (case k3 => k_asm); (case k4 => k_asm); (case k5 => leaf_len)); (case k7 => k_asm); (case c1 => top_caught0); (case c2 => top_caught0); (case k6 => lcg_off); (case kK => first | exact rfl | assumption); (case kd => ktr_room); (case ku => ktr_units)); intro r9 h9 tk9 hx9 F9 N9; (try dsimp only [pairO] at N9); obtain ⟨hr9, hx8, hx7, hx6, hg9⟩ := hx9; (have hx5 := hr9); (try k_lt hx5); (try k_sweep); (try dsimp only); (try k_fold)))
  k_with "~w101" => open zzfresh in ((k_here; (with_reducible show wpAny _ _ (call (Value.ref 400) _) _ _ _); k_dflt ((refine' Cal.useC (lw_markers _) ?k1 ?k2 ?k3 ?k4 ?k5 ?k6 ?k7 ?kK ?kd ?ku ?_; (case k1 => k_asm); (case k2 => k_asm); (case k3 => k_asm); (case k4 => k_asm); (case k5 => exact Cut.nil _)); (case k7 => k_asm); (case k6 => lcg_off); (case kK => first | exact rfl | assumption); (case kd => ktr_room); (case ku => ktr_units)); intro r9 h9 tk9 hx9 F9 N9; (try dsimp only [pairO] at N9); obtain ⟨hr9, hx8, hx7, hd9⟩ := hx9; (have hx5 := hr9); (try k_lt hx5); (try k_sweep); (try dsimp only); (try k_fold)))
  k_with "~w102" => open zzfresh in ((refine' code_defF ?k1 ?k2 ?k3 ?k4 ?kO ?k5 ?kA ?kF ?kK ?k6 ?k7 ?k8 ?k9 ?kB ?_ ?c2 ?c3 ?c4 ?c5; (case kA => exact rfl); (case kF => exact rfl); (case kK => assumption); (case k1 => k_asm); (case k2 => k_asm); (case k3 => k_asm); (case k4 => k_asm); (case kO => k_asm); (case k5 => k_asm); (case k6 => k_is); (case k7 => k_is); (case k8 => ktr_room); (case k9 => first | exact BindsTo.of_eq rfl | exact binds_K (by k_in) rfl (by k_is) rfl rfl rfl); (case c5 => decide); (case kB => exact locs rfl); (case c2 => exact rfl); (case c3 => exact rfl); (case c4 => exact rfl); k_whole; intro g' L' h' FG' F' N' B' X' T'; (try dsimp only [List.cons_append, List.nil_append, List.append_nil] at N'); (try dsimp only); (try k_fold)))
  k_with "~w103" => open zzfresh in ((k_here; k_dflt ((with_reducible show wpAny _ _ (call (Value.builtin _) [Value.ref _, Value.int _ _]) _ _ _); refine' kl_popAt (p := []) ?F ?N ?f ?k ?e ?U ?z ?_; (case F => k_asm); (case N => k_asm); (case U => k_upd); (case f => rfl); (case k => exact seq0 _); (case e => rfl); (case z => exact deck_room (by assumption) (by assumption))); (intro h' F' N'; (try dsimp only [List.nil_append, List.cons_append] at N'))))
  k_with "~w104" => open zzfresh in ((k_here; (with_reducible show wpAny _ _ (call (Value.ref 62) _) _ _ _); k_dflt ((refine' Cal.useC (bf_reachM _ _ ?c0 _ _ _ _ _ _ _ ?cm ?c1 ?c2) ?k1 ?k2 ?k3 ?k4 ?k5 ?k6 ?k7 ?kK ?kd ?ku ?_; (case k1 => k_asm); (case k2 => k_asm); (case k3 => k_asm); (case k4 => k_asm); (case k5 => leaf_len)); (case k7 => k_asm); (case c0 => with_reducible assumption); (case cm => first | with_reducible assumption | exact .inl ⟨by omega, rfl, rfl⟩ | exact .inr ⟨by omega, rfl, rfl⟩); (case c1 => top_caught0); (case c2 => top_caught0); (case k6 => lcg_off); (case kK => first | exact rfl | assumption); (case kd => ktr_room); (case ku => ktr_units)); intro r9 h9 tk9 hx9 F9 N9; (try dsimp only [pairO] at N9); (try dsimp only at hx9); (have hl9 := hx9); (try k_lt hl9); (try k_sweep); (try dsimp only); (try k_fold)))
  k_with "~w105" => open zzfresh in ((k_here; (with_reducible show wpAny _ _ (call (Value.ref 111) _) _ _ _); k_dflt ((refine' Cal.useC (bf_putin _ _ ?c0 _ _ _ _ ?c1 _ ?c2 _ _ _ _ _ _ ?c4 ?d0 ?d1 ?d2 ?d3 ?d4 ?d5 ?d6 _ _ ?d8) ?k1 ?k2 ?k3 ?k4 ?k5 ?k6 ?k7 ?kK ?kd ?ku ?_; (case k1 => k_asm); (case k2 => k_asm); (case k3 => k_asm); (case k4 => k_asm); (case k5 => leaf_len)); (case k7 => k_asm); (case c0 => with_reducible assumption); (case c1 => with_reducible assumption); (case c2 => with_reducible assumption); (case c4 => with_reducible assumption); (case d0 => top_caught0); (case d1 => top_caught0); (case d2 => top_caught0); (case d3 => top_caught0); (case d4 => top_caught0); (case d5 => first | with_reducible assumption | omega | (simp only [List.length_map, rangeKs_length]; omega) | (simp only [List.length_append, List.length_take, List.length_drop]; omega)); (case d6 => first | with_reducible assumption | exact ni_of (by with_reducible assumption) (by with_reducible assumption)); (case d8 => first | exact fun _ => rfl | exact fun h => Bool.noConfusion h); (case k6 => lcg_off); (case kK => first | exact rfl | assumption); (case kd => ktr_room); (case ku => ktr_units)); intro r9 h9 tk9 hx9 F9 N9; (try dsimp only [pairO] at N9); (try dsimp only at hx9); obtain ⟨hb9, hz9, hp9, hg9, hk9⟩ := hx9; (try k_sweep); (try dsimp only); (try k_fold)))
  k_with "~w106" => open zzfresh in ((k_here; (with_reducible show wpAny _ _ (call (Value.ref 238) _) _ _ _); k_dflt ((refine' Cal.useC (gT_put _ _ ?c0 ?c1 _ _ _ _ ?c2 ?c3) ?k1 ?k2 ?k3 ?k4 ?k5 ?k6 ?k7 ?kK ?kd ?ku ?_; (case k1 => k_asm); (case k2 => k_asm); (case k3 => k_asm); (case k4 => k_asm); (case k5 => leaf_len)); (case k7 => k_asm); (case c0 => exact BufA.ok.gap (by with_reducible assumption)); (case c1 => with_reducible assumption); (case c2 => top_caught0); (case c3 => top_caught0); (case k6 => lcg_off); (case kK => first | exact rfl | assumption); (case kd => ktr_room); (case ku => ktr_units)); intro r9 h9 tk9 hx9 F9 N9; (try dsimp only [pairO] at N9); (try dsimp only at hx9); (have hg9 := hx9); (try k_sweep); (try dsimp only); (try k_fold)))
  k_with "~w107" => open zzfresh in ((k_here; (with_reducible show wpAny _ _ (call (Value.ref 119) [_, _, _]) _ _ _); k_dflt ((refine' Cal.useC (bf_insertat0 _ _ ?c0 _ _ _ _ ?c1 _ ?c2 _ _ _ _ _ _ ?c4 ?d0 ?d1 ?d2 ?d3 ?d4 ?d5 ?d6) ?k1 ?k2 ?k3 ?k4 ?k5 ?k6 ?k7 ?kK ?kd ?ku ?_; (case k1 => k_asm); (case k2 => k_asm); (case k3 => k_asm); (case k4 => k_asm); (case k5 => leaf_len)); (case k7 => k_asm); (case c0 => with_reducible assumption); (case c1 => with_reducible assumption); (case c2 => with_reducible assumption); (case c4 => with_reducible assumption); (case d0 => top_caught0); (case d1 => top_caught0); (case d2 => top_caught0); (case d3 => top_caught0); (case d4 => top_caught0); (case d5 => first | with_reducible assumption | omega | (simp only [List.length_map, rangeKs_length]; omega) | (simp only [List.length_append, List.length_take, List.length_drop]; omega)); (case d6 => first | with_reducible assumption | exact ni_of (by with_reducible assumption) (by with_reducible assumption)); (case k6 => lcg_off); (case kK => first | exact rfl | assumption); (case kd => ktr_room); (case ku => ktr_units)); intro r9 h9 tk9 hx9 F9 N9; (try dsimp only [pairO] at N9); (try dsimp only at hx9); obtain ⟨he9, hg9⟩ := hx9; (try k_sweep); (try dsimp only); (try k_fold)))
  k_with "~w108" => open zzfresh in ((k_here; (with_reducible show wpAny _ _ (call (Value.ref 134) _) _ _ _); k_dflt ((refine' Cal.useC (bf_delete _ _ ?c0 _ _ _ _ ?c1 _ ?c2 _ _ _ _ _ _ ?cm ?d0 ?d1 ?d2 ?d3 ?d4) ?k1 ?k2 ?k3 ?k4 ?k5 ?k6 ?k7 ?kK ?kd ?ku ?_; (case k1 => k_asm); (case k2 => k_asm); (case k3 => k_asm); (case k4 => k_asm); (case k5 => leaf_len)); (case k7 => k_asm); (case c0 => with_reducible assumption); (case c1 => with_reducible assumption); (case c2 => with_reducible assumption); (case cm => first | with_reducible assumption | exact .inl ⟨by omega, rfl, rfl⟩ | exact .inr ⟨by omega, rfl, rfl⟩); (case d0 => top_caught0); (case d1 => top_caught0); (case d2 => top_caught0); (case d3 => top_caught0); (case d4 => top_caught0); (case k6 => lcg_off); (case kK => first | exact rfl | assumption); (case kd => ktr_room); (case ku => ktr_units)); intro r9 h9 tk9 hx9 F9 N9; (try dsimp only [pairO] at N9); (try dsimp only at hx9); obtain ⟨he9, hg9⟩ := hx9; (try k_sweep); (try dsimp only); (try k_fold)))
  k_with "~w109" => open zzfresh in ((k_here; (with_reducible show wpAny _ _ (call (Value.ref 468) _) _ _ _); k_dflt ((refine' Cal.useC (bf_codes _ _ ?c0 _ _ _ _ ?c1 _ _ _ _ ?c2 ?c3 ?c4) ?k1 ?k2 ?k3 ?k4 ?k5 ?k6 ?k7 ?kK ?kd ?ku ?_; (case k1 => k_asm); (case k2 => k_asm); (case k3 => k_asm); (case k4 => k_asm); (case k5 => leaf_len)); (case k7 => k_asm); (case c0 => with_reducible assumption); (case c1 => with_reducible assumption); (case c2 => top_caught0); (case c3 => top_caught0); (case c4 => top_caught0); (case k6 => lcg_off); (case kK => first | exact rfl | assumption); (case kd => ktr_room); (case ku => ktr_units)); intro r9 h9 tk9 hx9 F9 N9; (try dsimp only [pairO] at N9); (try dsimp only at hx9); obtain ⟨hi9, hl9⟩ := hx9; (try k_lt hl9); (try k_sweep); (try dsimp only); (try k_fold)))
  k_with "~w110" => open zzfresh in ((k_here; (with_reducible show wpAny _ _ (call (Value.ref 147) _) _ _ _); k_dflt ((refine' Cal.useD (bf_replace _ _ ?c0 _ _ _ _ ?c1 _ ?c2 _ _ _ _ _ _ ?cm _ _ _ _ ?c4 ?d0 ?d1 ?d2 ?d3 ?d4 ?d5 ?d6 ?d7) ?k1 ?k2 ?k3 ?k4 ?k5 ?k7 ?kK ?kd ?ku ?_; (case k1 => k_asm); (case k2 => k_asm); (case k3 => k_asm); (case k4 => k_asm); (case k5 => nest_cls)); (case k7 => k_asm); (case c0 => with_reducible assumption); (case c1 => with_reducible assumption); (case c2 => with_reducible assumption); (case cm => first | with_reducible assumption | exact .inl ⟨by omega, rfl, rfl⟩ | exact .inr ⟨by omega, rfl, rfl⟩); (case c4 => with_reducible assumption); (case d0 => top_caught0); (case d1 => top_caught0); (case d2 => top_caught0); (case d3 => top_caught0); (case d4 => top_caught0); (case d5 => top_caught0); (case d6 => first | with_reducible assumption | omega | (simp only [List.length_map, rangeKs_length]; omega) | (simp only [List.length_append, List.length_take, List.length_drop]; omega)); (case d7 => first | with_reducible assumption | exact ni_of (by with_reducible assumption) (by with_reducible assumption)); (case kK => first | exact rfl | assumption); (case kd => ktr_room); (case ku => ktr_units)); intro r9 h9 tk9 hx9 F9 N9; (try dsimp only [pairO] at N9); (try dsimp only at hx9); obtain ⟨he9, hg9⟩ := hx9; (try k_sweep); (try dsimp only); (try k_fold)))
  k_with "~w111" => open zzfresh in ((k_here; (with_reducible show wpAny _ _ (call (Value.ref 461) _) _ _ _); k_dflt ((refine' Cal.useC (bf_codeat _ _ ?c0 _ _ _ _ ?c1 _ _ ?c2 ?c3 ?c4 ?c5) ?k1 ?k2 ?k3 ?k4 ?k5 ?k6 ?k7 ?kK ?kd ?ku ?_; (case k1 => k_asm); (case k2 => k_asm); (case k3 => k_asm); (case k4 => k_asm); (case k5 => leaf_len)); (case k7 => k_asm); (case c0 => with_reducible assumption); (case c1 => with_reducible assumption); (case c2 => top_caught0); (case c3 => top_caught0); (case c4 => top_caught0); (case c5 => top_caught0); (case k6 => lcg_off); (case kK => first | exact rfl | assumption); (case kd => ktr_room); (case ku => ktr_units)); intro r9 h9 tk9 hx9 F9 N9; (try dsimp only [pairO] at N9); clear hx9; (try k_sweep); (try dsimp only); (try k_fold)))
  k_with "~w112" => open zzfresh in ((k_here; (with_reducible show wpAny _ _ (call (Value.ref 154) _) _ _ _); k_dflt ((refine' Cal.useC (bf_sign _ _ ?c0 _ _ _ _ ?c1 _ _ _ _ ?c2 ?c3 ?c4 ?c5) ?k1 ?k2 ?k3 ?k4 ?k5 ?k6 ?k7 ?kK ?kd ?ku ?_; (case k1 => k_asm); (case k2 => k_asm); (case k3 => k_asm); (case k4 => k_asm); (case k5 => leaf_len)); (case k7 => k_asm); (case c0 => with_reducible assumption); (case c1 => with_reducible assumption); (case c2 => top_caught0); (case c3 => top_caught0); (case c4 => top_caught0); (case c5 => top_caught0); (case k6 => lcg_off); (case kK => first | exact rfl | assumption); (case kd => ktr_room); (case ku => ktr_units)); intro r9 h9 tk9 hx9 F9 N9; (try dsimp only [pairO] at N9); (try dsimp only at hx9); obtain ⟨hs9, hg9⟩ := hx9; (have hs8 := hs9); obtain ⟨hp9, hb9, hz9⟩ := hs8; (try k_sweep); (try dsimp only); (try k_fold)))
  k_with "~w113" => open zzfresh in ((k_here; (with_reducible show wpAny _ _ (call (Value.ref 127) _) _ _ _); k_dflt ((refine' Cal.useS (bf_insert _ _ ?c0 _ _ _ _ ?c1 _ ?c2 ?c3 _ _ _ _ ?c4 ?d0 ?d1 ?d2 ?d3 ?d4 ?d5 ?d6 ?d7) ?k1 ?k2 ?k3 ?k4 ?k5 ?k6 ?k7 ?kK ?kd ?ku ?_; (case k1 => k_asm); (case k2 => k_asm); (case k3 => k_asm); (case k4 => k_asm); (case k5 => k_clsL)); (case k7 => k_asm); (case c0 => with_reducible assumption); (case c1 => with_reducible assumption); (case c2 => with_reducible assumption); (case c3 => with_reducible assumption); (case c4 => with_reducible assumption); (case d0 => omega); (case d1 => omega); (case d2 => omega); (case d3 => omega); (case d4 => omega); (case d5 => omega); (case d6 => omega); (case d7 => with_reducible assumption); (case k6 => k_offL); (case kK => first | exact rfl | assumption); (case kd => ktr_room); (case ku => ktr_units)); intro r9 h9 tk9 hx9 F9 N9; (try dsimp only at hx9); obtain ⟨hb9, hz9, hp9, hg9, hk9⟩ := hx9; (try dsimp only [bufL, gapL, rowsL, mksL, mkL, List.cons_append, List.nil_append, List.append_nil] at N9); (try k_sweep); (try dsimp only); (try k_fold)))
  k_with "~w114" => open zzfresh in ((k_here; (with_reducible show wpAny _ _ (call (Value.ref 119) _) _ _ _); k_dflt ((refine' Cal.useS (bf_insertat _ _ ?c0 _ _ _ _ ?c1 _ ?c2 ?c3 _ _ _ _ _ _ ?c4 ?d0 ?d1 ?d2 ?d3 ?d4 ?d5 ?d6 ?d7 _) ?k1 ?k2 ?k3 ?k4 ?k5 ?k6 ?k7 ?kK ?kd ?ku ?_; (case k1 => k_asm); (case k2 => k_asm); (case k3 => k_asm); (case k4 => k_asm); (case k5 => k_clsL)); (case k7 => k_asm); (case c0 => with_reducible assumption); (case c1 => with_reducible assumption); (case c2 => with_reducible assumption); (case c3 => with_reducible assumption); (case c4 => with_reducible assumption); (case d0 => omega); (case d1 => omega); (case d2 => omega); (case d3 => omega); (case d4 => omega); (case d5 => omega); (case d6 => omega); (case d7 => with_reducible assumption); (case k6 => k_offL); (case kK => first | exact rfl | assumption); (case kd => ktr_room); (case ku => ktr_units)); intro r9 h9 tk9 hx9 F9 N9; (try dsimp only at hx9); obtain ⟨hb9, hz9, hp9, hg9, hk9⟩ := hx9; (try dsimp only [bufL, gapL, rowsL, mksL, mkL, List.cons_append, List.nil_append, List.append_nil] at N9); (try k_sweep); (try dsimp only); (try k_fold)))
  k_with "~w115" => open zzfresh in ((k_here; (with_reducible show wpAny _ _ (call (Value.ref 119) _) _ _ _); k_dflt ((refine' Cal.useS (bf_insertat0 _ _ ?c0 _ _ _ _ ?c1 _ ?c2 ?c3 _ _ _ _ _ _ ?c4 ?d0 ?d1 ?d2 ?d3 ?d4 ?d5 ?d6 ?d7) ?k1 ?k2 ?k3 ?k4 ?k5 ?k6 ?k7 ?kK ?kd ?ku ?_; (case k1 => k_asm); (case k2 => k_asm); (case k3 => k_asm); (case k4 => k_asm); (case k5 => k_clsL)); (case k7 => k_asm); (case c0 => with_reducible assumption); (case c1 => with_reducible assumption); (case c2 => with_reducible assumption); (case c3 => with_reducible assumption); (case c4 => with_reducible assumption); (case d0 => omega); (case d1 => omega); (case d2 => omega); (case d3 => omega); (case d4 => omega); (case d5 => omega); (case d6 => omega); (case d7 => with_reducible assumption); (case k6 => k_offL); (case kK => first | exact rfl | assumption); (case kd => ktr_room); (case ku => ktr_units)); intro r9 h9 tk9 hx9 F9 N9; (try dsimp only at hx9); obtain ⟨hb9, hz9, hp9, hg9, hk9⟩ := hx9; (try dsimp only [bufL, gapL, rowsL, mksL, mkL, List.cons_append, List.nil_append, List.append_nil] at N9); (try k_sweep); (try dsimp only); (try k_fold)))
  k_with "~w116" => open zzfresh in ((k_here; (with_reducible show wpAny _ _ (call (Value.ref 134) _) _ _ _); k_dflt ((refine' Cal.useS (bf_delete _ _ ?c0 _ _ _ _ ?c1 _ ?c2 ?c3 _ _ _ _ ?d0 ?d1 ?d2 ?d3 ?d4 ?d5) ?k1 ?k2 ?k3 ?k4 ?k5 ?k6 ?k7 ?kK ?kd ?ku ?_; (case k1 => k_asm); (case k2 => k_asm); (case k3 => k_asm); (case k4 => k_asm); (case k5 => k_clsL)); (case k7 => k_asm); (case c0 => with_reducible assumption); (case c1 => with_reducible assumption); (case c2 => with_reducible assumption); (case c3 => with_reducible assumption); (case d0 => omega); (case d1 => omega); (case d2 => omega); (case d3 => omega); (case d4 => omega); (case d5 => omega); (case k6 => k_offL); (case kK => first | exact rfl | assumption); (case kd => ktr_room); (case ku => ktr_units)); intro r9 h9 tk9 hx9 F9 N9; (try dsimp only at hx9); obtain ⟨hb9, hz9, hp9, hg9, hk9⟩ := hx9; (try dsimp only [bufL, gapL, rowsL, mksL, mkL, List.cons_append, List.nil_append, List.append_nil] at N9); (try k_sweep); (try dsimp only); (try k_fold)))
  k_with "~w117" => open zzfresh in ((k_here; (with_reducible show wpAny _ _ (call (Value.ref 475) _) _ _ _); k_dflt ((refine' Cal.useC (bf_goto _ _ ?c0 _ _ _ ?c1) ?k1 ?k2 ?k3 ?k4 ?k5 ?k6 ?k7 ?kK ?kd ?ku ?_; (case k1 => k_asm); (case k2 => k_asm); (case k3 => k_asm); (case k4 => k_asm); (case k5 => leaf_len)); (case k7 => k_asm); (case c0 => with_reducible assumption); (case c1 => top_caught0); (case k6 => lcg_off); (case kK => first | exact rfl | assumption); (case kd => ktr_room); (case ku => ktr_units)); intro r9 h9 tk9 hx9 F9 N9; (try dsimp only [pairO] at N9); (try dsimp only at hx9); obtain ⟨hb9, hz9, hp9⟩ := hx9; (try dsimp only at hb9 hz9 hp9); (try k_sweep); (try dsimp only); (try k_fold)))
  k_with "~w118" => open zzfresh in (((with_reducible refine' ne_below ?a ?b); (case a => with_reducible assumption); (case b => nest_cls)))
  k_with "~w119" => (((rename ∀ (p : Addr × Obj), p ∈ _ → p.1 < _ => h8); ((try (have la9 := h8)); (try (have hi9 := hi_of h8 (by nest_cls))); (try (have lo9 := lo_of h8 (by nest_cls))); (try ((replace h8 := allLt_of h8); simp only [AllLt, allLt_app, and_true] at h8)))))
  k_with "~w120" => open zzfresh in ((k_here; (with_reducible show wpAny _ _ (call (Value.ref 541) _) _ _ _); (try (rename LCg.Off1 _ _ => o9; (have o8 := off1_all o9); (have ni9 := ni_off o8 (by nest_cls) (by nest_cls) (by nest_cls)); (have od9 := offD_new (by with_reducible assumption) o8 (by nest_cls)); (have ne9 := off1N_of o9); simp only [Off1N, off1N_app, and_true] at ne9; clear o9)); (try (rename News _ _ _ _ => N5; dsimp only [lst_is] at N5)); k_dflt ((refine' Cal.useC (lw_draw _ _ _ _ _ ?c1 ?c2 _ _ ?c3 ?c4) ?k1 ?k2 ?k3 ?k4 ?k5 ?k6 ?k7 ?kK ?kd ?ku ?_; (case k1 => k_asm); (case k2 => k_asm); (case k3 => k_asm); (case k4 => k_asm); (case k5 => leaf_len)); (case k7 => k_asm); (case c1 => with_reducible assumption); (case c2 => with_reducible assumption); (case c3 => top_caught0); (case c4 => top_caught0); (case k6 => lcg_off); (case kK => first | exact rfl | assumption); (case kd => ktr_room); (case ku => ktr_units)); intro r9 h9 tk9 hx9 F9 N9; (try dsimp only [pairO] at N9); (try dsimp only at hx9); obtain ⟨hr9, hs9, hv9, hD9⟩ := hx9; (try k_sweep); (try dsimp only); (try k_fold)))
  k_with "~w121" => open zzfresh in ((k_here; (with_reducible show wpAny _ _ (call (Value.ref 119) [_, _, _, _]) _ _ _); (try (rename LCg.Off1 _ _ => o9; (have o8 := off1_all o9); (have ni9 := ni_off o8 (by nest_cls) (by nest_cls) (by nest_cls)); (have od9 := offD_new (by with_reducible assumption) o8 (by nest_cls)); (have ne9 := off1N_of o9); simp only [Off1N, off1N_app, and_true] at ne9; clear o9)); (try (rename News _ _ _ _ => N5; dsimp only [lst_is] at N5)); k_dflt ((refine' Cal.useC (bf_insertat _ _ ?c0 _ _ _ _ ?c1 _ ?c2 _ _ _ _ _ _ ?c4 ?d0 ?d1 ?d2 ?d3 ?d4 ?d5 ?d6 _) ?k1 ?k2 ?k3 ?k4 ?k5 ?k6 ?k7 ?kK ?kd ?ku ?_; (case k1 => k_asm); (case k2 => k_asm); (case k3 => k_asm); (case k4 => k_asm); (case k5 => leaf_len)); (case k7 => k_asm); (case c0 => with_reducible assumption); (case c1 => with_reducible assumption); (case c2 => with_reducible assumption); (case c4 => with_reducible assumption); (case d0 => top_caught0); (case d1 => top_caught0); (case d2 => top_caught0); (case d3 => top_caught0); (case d4 => top_caught0); (case d5 => first | with_reducible assumption | omega | (simp only [List.length_map, rangeKs_length]; omega) | (simp only [List.length_append, List.length_take, List.length_drop]; omega)); (case d6 => first | with_reducible assumption | exact ni_of (by with_reducible assumption) (by with_reducible assumption)); (case k6 => lcg_off); (case kK => first | exact rfl | assumption); (case kd => ktr_room); (case ku => ktr_units)); intro r9 h9 tk9 hx9 F9 N9; (try dsimp only [pairO] at N9); (try dsimp only at hx9); obtain ⟨he9, hg9⟩ := hx9; (try k_sweep); (try dsimp only); (try k_fold)))
  k_with "~w122" => open zzfresh in ((k_here; (with_reducible show wpAny _ _ (call (Value.ref 127) _) _ _ _); (try (rename LCg.Off1 _ _ => o9; (have o8 := off1_all o9); (have ni9 := ni_off o8 (by nest_cls) (by nest_cls) (by nest_cls)); (have od9 := offD_new (by with_reducible assumption) o8 (by nest_cls)); (have ne9 := off1N_of o9); simp only [Off1N, off1N_app, and_true] at ne9; clear o9)); (try (rename News _ _ _ _ => N5; dsimp only [lst_is] at N5)); k_dflt ((refine' Cal.useC (bf_insert _ _ ?c0 _ _ _ _ ?c1 _ ?c2 _ _ _ _ ?c4 ?d0 ?d1 ?d2 ?d3 ?d4 ?d5 ?d6) ?k1 ?k2 ?k3 ?k4 ?k5 ?k6 ?k7 ?kK ?kd ?ku ?_; (case k1 => k_asm); (case k2 => k_asm); (case k3 => k_asm); (case k4 => k_asm); (case k5 => leaf_len)); (case k7 => k_asm); (case c0 => with_reducible assumption); (case c1 => with_reducible assumption); (case c2 => with_reducible assumption); (case c4 => with_reducible assumption); (case d0 => top_caught0); (case d1 => top_caught0); (case d2 => top_caught0); (case d3 => top_caught0); (case d4 => top_caught0); (case d5 => first | with_reducible assumption | omega | (simp only [List.length_map, rangeKs_length]; omega) | (simp only [List.length_append, List.length_take, List.length_drop]; omega)); (case d6 => first | with_reducible assumption | exact ni_of (by with_reducible assumption) (by with_reducible assumption)); (case k6 => lcg_off); (case kK => first | exact rfl | assumption); (case kd => ktr_room); (case ku => ktr_units)); intro r9 h9 tk9 hx9 F9 N9; (try dsimp only [pairO] at N9); (try dsimp only at hx9); obtain ⟨hb9, hz9, hp9, hg9, hk9⟩ := hx9; (try k_sweep); (try dsimp only); (try k_fold)))
  k_with "~w123" => open zzfresh in ((k_here; (with_reducible show wpAny _ _ (call (Value.ref 134) _) _ _ _); (try (rename LCg.Off1 _ _ => o9; (have o8 := off1_all o9); (have ni9 := ni_off o8 (by nest_cls) (by nest_cls) (by nest_cls)); (have od9 := offD_new (by with_reducible assumption) o8 (by nest_cls)); (have ne9 := off1N_of o9); simp only [Off1N, off1N_app, and_true] at ne9; clear o9)); (try (rename News _ _ _ _ => N5; dsimp only [lst_is] at N5)); k_dflt ((refine' Cal.useC (bf_delete _ _ ?c0 _ _ _ _ ?c1 _ ?c2 _ _ _ _ _ _ ?cm ?d0 ?d1 ?d2 ?d3 ?d4) ?k1 ?k2 ?k3 ?k4 ?k5 ?k6 ?k7 ?kK ?kd ?ku ?_; (case k1 => k_asm); (case k2 => k_asm); (case k3 => k_asm); (case k4 => k_asm); (case k5 => leaf_len)); (case k7 => k_asm); (case c0 => with_reducible assumption); (case c1 => with_reducible assumption); (case c2 => with_reducible assumption); (case cm => first | with_reducible assumption | (refine mm_l ?_; omega) | (refine mm_r ?_; omega)); (case d0 => top_caught0); (case d1 => top_caught0); (case d2 => top_caught0); (case d3 => top_caught0); (case d4 => top_caught0); (case k6 => lcg_off); (case kK => first | exact rfl | assumption); (case kd => ktr_room); (case ku => ktr_units)); intro r9 h9 tk9 hx9 F9 N9; (try dsimp only [pairO] at N9); (try dsimp only at hx9); obtain ⟨he9, hg9⟩ := hx9; (try k_sweep); (try dsimp only); (try k_fold)))
  k_with "~w124" => open zzfresh in ((k_here; (with_reducible show wpAny _ _ (call (Value.ref 147) _) _ _ _); (try (rename LCg.Off1 _ _ => o9; (have o8 := off1_all o9); (have ni9 := ni_off o8 (by nest_cls) (by nest_cls) (by nest_cls)); (have od9 := offD_new (by with_reducible assumption) o8 (by nest_cls)); (have ne9 := off1N_of o9); simp only [Off1N, off1N_app, and_true] at ne9; clear o9)); (try (rename News _ _ _ _ => N5; dsimp only [lst_is] at N5)); k_dflt ((refine' Cal.useC (bf_replace _ _ ?c0 _ _ _ _ ?c1 _ ?c2 _ _ _ _ _ _ ?cm _ _ _ _ ?c4 ?d0 ?d1 ?d2 ?d3 ?d4 ?d5 ?d6 ?d7) ?k1 ?k2 ?k3 ?k4 ?k5 ?k6 ?k7 ?kK ?kd ?ku ?_; (case k1 => k_asm); (case k2 => k_asm); (case k3 => k_asm); (case k4 => k_asm); (case k5 => leaf_len)); (case k7 => k_asm); (case c0 => with_reducible assumption); (case c1 => with_reducible assumption); (case c2 => with_reducible assumption); (case cm => first | with_reducible assumption | (refine mm_l ?_; omega) | (refine mm_r ?_; omega)); (case c4 => with_reducible assumption); (case d0 => top_caught0); (case d1 => top_caught0); (case d2 => top_caught0); (case d3 => top_caught0); (case d4 => top_caught0); (case d5 => top_caught0); (case d6 => first | with_reducible assumption | omega | (simp only [List.length_map, rangeKs_length]; omega) | (simp only [List.length_append, List.length_take, List.length_drop]; omega)); (case d7 => first | with_reducible assumption | exact ni_of (by with_reducible assumption) (by with_reducible assumption)); (case k6 => lcg_off); (case kK => first | exact rfl | assumption); (case kd => ktr_room); (case ku => ktr_units)); intro r9 h9 tk9 hx9 F9 N9; (try dsimp only [pairO] at N9); (try dsimp only at hx9); obtain ⟨he9, hg9⟩ := hx9; (try k_sweep); (try dsimp only); (try k_fold)))
  k_with "~w125" => open zzfresh in ((k_here; (with_reducible show wpAny _ _ (call (Value.ref 161) _) _ _ _); (try (rename LCg.Off1 _ _ => o9; (have o8 := off1_all o9); (have ni9 := ni_off o8 (by nest_cls) (by nest_cls) (by nest_cls)); (have od9 := offD_new (by with_reducible assumption) o8 (by nest_cls)); (have ne9 := off1N_of o9); simp only [Off1N, off1N_app, and_true] at ne9; clear o9)); (try (rename News _ _ _ _ => N5; dsimp only [lst_is] at N5)); k_dflt ((refine' Cal.useC (bf_subst _ _ ?c0 _ _ _ _ ?c1 _ _ _ _ _ _ _ _ ?c2 ?c3 ?c4 ?c5 ?c6) ?k1 ?k2 ?k3 ?k4 ?k5 ?k6 ?k7 ?kK ?kd ?ku ?_; (case k1 => k_asm); (case k2 => k_asm); (case k3 => k_asm); (case k4 => k_asm); (case k5 => leaf_len)); (case k7 => k_asm); (case c0 => with_reducible assumption); (case c1 => with_reducible assumption); (case c2 => top_caught0); (case c3 => top_caught0); (case c4 => top_caught0); (case c5 => top_caught0); (case c6 => top_caught0); (case k6 => lcg_off); (case kK => first | exact rfl | assumption); (case kd => ktr_room); (case ku => ktr_units)); intro r9 h9 tk9 hx9 F9 N9; (try dsimp only [pairO] at N9); (try dsimp only at hx9); (have hu9 := hx9); (try k_sweep); (try dsimp only); (try k_fold)))
  k_with "~w126" => open zzfresh in ((k_here; (with_reducible show wpAny _ _ (call (Value.ref 168) _) _ _ _); (try (rename LCg.Off1 _ _ => o9; (have o8 := off1_all o9); (have ni9 := ni_off o8 (by nest_cls) (by nest_cls) (by nest_cls)); (have od9 := offD_new (by with_reducible assumption) o8 (by nest_cls)); (have ne9 := off1N_of o9); simp only [Off1N, off1N_app, and_true] at ne9; clear o9)); (try (rename News _ _ _ _ => N5; dsimp only [lst_is] at N5)); k_dflt ((refine' Cal.useC (bf_transp2 _ _ ?c0 _ _ _ _ ?c1 _ ?c2 _ _ _ _ _ _ _ _ _ ?d0 ?d1 ?d2 ?d3 ?d4 ?d5 ?d6 ?d7 ?d8 ?d9 ?e0) ?k1 ?k2 ?k3 ?k4 ?k5 ?k6 ?k7 ?kK ?kd ?ku ?_; (case k1 => k_asm); (case k2 => k_asm); (case k3 => k_asm); (case k4 => k_asm); (case k5 => leaf_len)); (case k7 => k_asm); (case c0 => with_reducible assumption); (case c1 => with_reducible assumption); (case c2 => with_reducible assumption); (case d0 => top_caught0); (case d1 => top_caught0); (case d2 => top_caught0); (case d3 => top_caught0); (case d4 => top_caught0); (case d5 => top_caught0); (case d6 => top_caught0); (case d7 => top_caught0); (case d8 => top_caught0); (case d9 => top_caught0); (case e0 => top_caught0); (case k6 => lcg_off); (case kK => first | exact rfl | assumption); (case kd => ktr_room); (case ku => ktr_units)); intro r9 h9 tk9 hx9 F9 N9; (try dsimp only [pairO] at N9); (try dsimp only at hx9); obtain ⟨he9, hl9, hg9⟩ := hx9; (try k_sweep); (try dsimp only); (try k_fold)))
  k_with "~w127" => open zzfresh in (((with_reducible show wpAny _ _ (subscriptTail _ _ (Value.ref _) (Value.int _ _)) _ _ _); (with_unfolding_all refine' PyProof.Rows.item_list_ints ?k1 ?k2 ?k3 ?k4 ?k5 ?_; (case k1 => is_list); (case k2 => with_reducible assumption); (case k3 => l_idx); (case k4 => l_idx); (case k5 => l_idx); k_whole); intro _))
  k_with "~w128" => open zzfresh in (first | with_reducible assumption | ((repeat' (first | with_reducible exact off_nil _ | with_reducible exact off_none _ | with_reducible refine off_appL ?_ ?_ | with_reducible refine off_appR ?_ ?_ | with_reducible refine off_consR ?_ ?_)); (all_goals (first | with_reducible assumption | with_reducible exact low_bg (by with_reducible assumption) | with_reducible exact low_gb (by with_reducible assumption) | with_reducible exact low_br (by with_reducible assumption) | with_reducible exact low_rb (by with_reducible assumption) | with_reducible exact low_gr (by with_reducible assumption) | with_reducible exact low_rg (by with_reducible assumption) | with_reducible exact off_bg (by with_reducible assumption) | with_reducible exact off_gb (by with_reducible assumption) | with_reducible exact off_bm (by with_reducible assumption) | with_reducible exact off_mb (by with_reducible assumption) | with_reducible exact off_gm (by with_reducible assumption) | with_reducible exact off_mg (by with_reducible assumption) | with_reducible exact offR_at (by with_reducible assumption) | with_reducible exact offB_at (by with_reducible assumption) | with_reducible exact offG_at (by with_reducible assumption) | with_reducible exact offM_at (by with_reducible assumption) | with_reducible exact offD_at (by with_reducible assumption) | ((with_reducible refine' off_cons ?kp ?kq); (case kp => first | tlg_ne | (refine all_swap ?_; tlg_ne)); (case kq => lcg_off)) | tlg_ne | exact off_ofL (by with_reducible assumption) | exact off_ofR (by with_reducible assumption)))))
  k_with "~w129" => open zzfresh in (first | with_reducible assumption | with_reducible exact List.forall_mem_nil _ | ((with_reducible refine' List.forall_mem_append.mpr ⟨?a, ?b⟩); (case a => tlg_ne); (case b => tlg_ne)) | ((with_reducible refine' List.forall_mem_cons.mpr ⟨?a, ?b⟩); (case a => k_ne); (case b => tlg_ne)) | with_reducible exact hi_buf (by with_reducible assumption) (by with_reducible assumption) | with_reducible exact hi_gap (by with_reducible assumption) (by with_reducible assumption) | with_reducible exact hi_mk (by with_reducible assumption) (by with_reducible assumption) | with_reducible exact lo_buf (by with_reducible assumption) (by with_reducible assumption) | with_reducible exact lo_gap (by with_reducible assumption) (by with_reducible assumption) | with_reducible exact ldk_buf (by with_reducible assumption) (by with_reducible assumption) | with_reducible exact ldk_gap (by with_reducible assumption) (by with_reducible assumption) | with_reducible exact ldk_rows (by with_reducible assumption) (by with_reducible assumption) | with_reducible exact lhi_buf (by with_reducible assumption) (by with_reducible assumption) | with_reducible exact lhi_gap (by with_reducible assumption) (by with_reducible assumption) | with_reducible exact lhi_rows (by with_reducible assumption) (by with_reducible assumption) | ((with_reducible refine' ldk_buf ?a ?b); (case a => with_reducible assumption); (case b => omega)) | ((with_reducible refine' ldk_gap ?a ?b); (case a => with_reducible assumption); (case b => omega)) | ((with_reducible refine' ldk_rows ?a ?b); (case a => with_reducible assumption); (case b => omega)) | ((with_reducible refine' lhi_buf ?a ?b); (case a => with_reducible assumption); (case b => omega)) | ((with_reducible refine' lhi_gap ?a ?b); (case a => with_reducible assumption); (case b => omega)) | ((with_reducible refine' lhi_rows ?a ?b); (case a => with_reducible assumption); (case b => omega)) | with_reducible exact nif_buf (by with_reducible assumption) | with_reducible exact nif_gap (by with_reducible assumption) | with_reducible exact nif_rows (by with_reducible assumption) | with_reducible exact ni_buf (by with_reducible assumption) | with_reducible exact ni_gap (by with_reducible assumption) | with_reducible exact ni_mk (by with_reducible assumption) | with_reducible exact dk_buf (by with_reducible assumption) (by with_reducible assumption) | with_reducible exact dk_gap (by with_reducible assumption) (by with_reducible assumption) | with_reducible exact dk_mk (by with_reducible assumption) (by with_reducible assumption))
  k_with "~w130" => open zzfresh in (first | (refine' InstAt.of_news ?N ?h1 ?h2; (case N => k_asm); (case h1 => with_reducible refine seg_bx ?hs; nest_cls); (case h2 => with_reducible refine seg_dx ?hs; nest_cls)) | (refine' InstAt.of_news ?N ?h1 ?h2; (case N => k_asm); (case h1 => tb_start); (case h2 => tb_start)))
  k_with "~w131" => open zzfresh in ((k_here; (rename Fr _ _ _ _ => lF'); (with_unfolding_all refine' For_invVF lF' ?k1 ?k2 ?_; (case k1 => exact rfl); (case k2 => exact rfl); k_whole)))
  k_with "~w132" => (((with_reducible show wpAny _ _ (pyIter (Value.ref _)) (fun it s₂ => LoopAtV _ _ _ _ _ _ _ _ _ it s₂) _ _); k_rangeUnr))
  k_with "~w133" => open zzfresh in ((k_dflt (refine' unr_cut ?F ?N ?P ?o ?_; (case F => k_asm); (case N => k_asm); (case P => leaf_len); (case o => tlg_ne))))
  k_with "~w134" => open zzfresh in ((k_here; (with_reducible show wpAny _ _ (call (Value.ref 541) _) _ _ _); (try (rename LCg.Off1 _ _ => o9; (have o8 := off1_all o9); (have ne9 := off1N_of o9); simp only [Off1N, off1N_app, and_true] at ne9; clear o9)); (try (rename News _ _ _ _ => N5; dsimp only [lst_is] at N5)); k_dflt ((refine' Cal.useC (lw_draw _ _ _ _ _ ?c1 ?c2 _ _ ?c3 ?c4) ?k1 ?k2 ?k3 ?k4 ?k5 ?k6 ?k7 ?kK ?kd ?ku ?_; (case k1 => k_asm); (case k2 => k_asm); (case k3 => k_asm); (case k4 => k_asm); (case k5 => leaf_len)); (case k7 => k_asm); (case c1 => with_reducible assumption); (case c2 => first | with_reducible assumption | exact deck_ok _); (case c3 => top_caught0); (case c4 => top_caught0); (case k6 => lcg_off); (case kK => first | exact rfl | assumption); (case kd => ktr_room); (case ku => ktr_units)); intro r9 h9 tk9 hx9 F9 N9; (try dsimp only [pairO] at N9); (try dsimp only at hx9); obtain ⟨hr9, hs9, hv9, hD9⟩ := hx9; (try k_sweep); (try dsimp only); (try k_fold)))
  k_with "~w135" => open zzfresh in ((k_here; (with_reducible show wpAny _ _ (call (Value.ref 332) _) _ _ _); (try (rename LCg.Off1 _ _ => o9; (have o8 := off1_all o9); (have ne9 := off1N_of o9); simp only [Off1N, off1N_app, and_true] at ne9; clear o9)); (try (rename News _ _ _ _ => N5; dsimp only [lst_is] at N5)); k_dflt ((refine' Cal.useC (lw_marker _ _ _ _) ?k1 ?k2 ?k3 ?k4 ?k5 ?k6 ?k7 ?kK ?kd ?ku ?_; (case k1 => k_asm); (case k2 => k_asm); (case k3 => k_asm); (case k4 => k_asm); (case k5 => exact Cut.nil _)); (case k7 => k_asm); (case k6 => lcg_off); (case kK => first | exact rfl | assumption); (case kd => ktr_room); (case ku => ktr_units)); intro r9 h9 tk9 hx9 F9 N9; (try dsimp only [pairO] at N9); obtain ⟨hr9, hx8, hx7, hx6, hx5, hx4⟩ := hx9; (have la9 := hr9); (try (have lo9 := lo_of la9 (by nest_cls))); (try (replace hr9 := allLt_of hr9; simp only [AllLt, allLt_app, and_true] at hr9)); (have lb9 := lt_up la9 hx8); (try k_sweep); (try dsimp only); (try k_fold)))
  k_with "~w136" => open zzfresh in ((k_here; (with_reducible show wpAny _ _ (call (Value.ref 529) _) _ _ _); k_dflt ((refine' Cal.useC (lw_setm2 _ _ ?c0 _ _ _ _ ?c1 _ _ _ ?c2 ?c3 _ _ _ ?c4 _ _ ?d1 ?d2 ?d3 ?d4) ?k1 ?k2 ?k3 ?k4 ?k5 ?k6 ?k7 ?kK ?kd ?ku ?_; (case k1 => k_asm); (case k2 => k_asm); (case k3 => k_asm); (case k4 => k_asm); (case k5 => leaf_len)); (case k7 => k_asm); (case c0 => with_reducible assumption); (case c1 => with_reducible assumption); (case c2 => with_reducible assumption); (case c3 => first | with_reducible assumption | exact Nat.le_of_ble_eq_true rfl); (case c4 => with_reducible assumption); (case d1 => first | with_reducible assumption | omega | (simp only [List.length_nil]; omega) | (simp only [List.length_map, rangeKs_length]; omega)); (case d2 => first | with_reducible assumption | omega | (simp only [List.length_nil]; omega) | (simp only [List.length_map, rangeKs_length]; omega)); (case d3 => first | with_reducible assumption | omega | (simp only [List.length_nil]; omega) | (simp only [List.length_map, rangeKs_length]; omega)); (case d4 => first | with_reducible assumption | omega | (simp only [List.length_nil]; omega) | (simp only [List.length_map, rangeKs_length]; omega)); (case k6 => lcg_off); (case kK => first | exact rfl | assumption); (case kd => ktr_room); (case ku => ktr_units)); intro r9 h9 tk9 hx9 F9 N9; (try dsimp only [pairO] at N9); (try dsimp only at hx9); obtain ⟨hx8, hx7, hx6, hd9⟩ := hx9; (try (rw [st0 (by assumption)] at hd9)); (try (rw [st1 (by assumption)] at hd9)); (try (rw [st2 (by assumption)] at hd9)); (try (rw [st3 (by assumption)] at hd9)); (try k_sweep); (try dsimp only); (try k_fold)))
  k_with "~w137" => open zzfresh in ((k_here; (with_reducible show wpAny _ _ (call (Value.ref 454) _) _ _ _); (try (rename LCg.Off1 _ _ => o9; (have o8 := off1_all o9); (have ne9 := off1N_of o9); simp only [Off1N, off1N_app, and_true] at ne9; clear o9)); (try (rename News _ _ _ _ => N5; dsimp only [lst_is] at N5)); k_dflt ((refine' Cal.useC (bf_sizeL _ _ ?c0 _ _ _ _ ?c1) ?k1 ?k2 ?k3 ?k4 ?k5 ?k6 ?k7 ?kK ?kd ?ku ?_; (case k1 => k_asm); (case k2 => k_asm); (case k3 => k_asm); (case k4 => k_asm); (case k5 => leaf_len)); (case k7 => k_asm); (case c0 => with_reducible assumption); (case c1 => with_reducible assumption); (case k6 => lcg_off); (case kK => first | exact rfl | assumption); (case kd => ktr_room); (case ku => ktr_units)); intro r9 h9 tk9 hx9 F9 N9; (try dsimp only [pairO] at N9); clear hx9; (try k_sweep); (try dsimp only); (try k_fold)))
  k_with "~w138" => open zzfresh in (first | ((with_reducible refine' Upd.head ?a); (case a => tlg_ne)) | ((with_reducible refine' Upd.tail ?a ?b); (case a => k_ne); (case b => k_upd)) | ((with_reducible refine' upd_l ?a ?b); (case a => k_upd); (case b => tlg_ne)) | ((with_reducible refine' upd_r ?a ?b); (case a => k_upd); (case b => tlg_ne)))
  k_with "~w139" => open zzfresh in ((k_here; (with_reducible show wpAny _ _ (call (Value.builtin _) [Value.ref _, _]) _ _ _); k_dflt (refine' append_K ?k1 ?k2 ?k3 ?_ ?z; (case k1 => k_asm); (case k2 => k_asm); (case k3 => k_upd); (case z => (simp only [List.size_toArray]; rw [sizeLine_eq]; omega)); k_whole); intro h' F' N'; (try k_sweep)))
  k_with "~w140" => open zzfresh in ((k_here; (with_reducible show wpAny _ _ (subscriptTail _ _ (Value.ref _) (Value.int _ _)) _ _ _); k_dflt (refine' PyProof.Rows.item_list ?hl ?h0 ?hf ?hx ?_; (case hl => exact News.isList (by k_asm) (by tb_start)); (case h0 => omega); (case hf => omega); (case hx => exact push_at (by with_reducible assumption)))))
  k_with "~w141" => open zzfresh in ((k_here; k_dflt (refine' kmk_slice_ints ?F ?N ?l ?p ?q ?i ?m ?c ?_ ?s ?t ?z; (case F => k_asm); (case N => k_asm); (case l => exact News.isList (by k_asm) (by tb_start)); (case p => kmk_part); (case q => kmk_part); (case i => with_reducible assumption); (case m => first | exact kmk_upto (by with_reducible assumption) (by first | ((refine sub1 ?_); with_reducible assumption) | omega) | exact kmk_from (by with_reducible assumption) (by first | ((refine sub1 ?_); with_reducible assumption) | omega) | exact kmk_run (by with_reducible assumption) (by first | ((refine sub1 ?_); with_reducible assumption) | omega) (by first | ((refine sub1 ?_); with_reducible assumption) | omega)); (case c => kmk_len); (case s => with_unfolding_all rfl); (case t => kmk_pure); (case z => (rw [PySem.sizeLine_eq, List.size_toArray]; first | ((refine len16 ?_ ?_) <;> with_reducible assumption) | omega))); intro D' ws' h' F' N' l1 hI' hC' hL'; (try k_lt l1); (try k_sweep)))
  k_with "~w142" => open zzfresh in ((k_dflt (refine' LCg.CompEnd.intro ?F ?N _ (fun _ h => h) ?o ?s ?_; (case F => assumption); (case N => assumption); (case o => assumption); (case s => lcg_src))))
  k_with "~w143" => ((k_here; k_dflt (refine LCt.ListComp_T (F₀ := by k_asm) (by with_unfolding_all rfl) (by decide) (by rfl) (by decide) (by rfl) ?_); k_dflt lct_toSrc))
  k_with "~w144" => ((k_here; k_dflt (refine LCt.CompSrcT.ledger (by rfl) (by k_asm) (by k_asm) (by k_mem) (by (rw [PySem.sizeLine_eq, List.size_toArray]; omega)) ?_; intro g'; refine' rest_none (by with_reducible assumption) (by with_reducible assumption) (fun k' t' I' oI' C' oC' D' m' h' tk' E' hlo' hhi' hC' hx' F' N' off' ne' => ?_) ?_)))
  k_with "~w145" => open zzfresh in ((k_here; (with_reducible show wpAny _ _ (call (Value.ref 553) _) _ _ _); k_dflt ((refine' Cal.useC (lw_kept _ _ _ _ _ _ _ _ _ _ _ _ _ ?c1 ?c2 ?c3 ?c4 ?c5 ?c6 ?c7) ?k1 ?k2 ?k3 ?k4 ?k5 ?k6 ?k7 ?kK ?kd ?ku ?_; (case k1 => k_asm); (case k2 => k_asm); (case k3 => k_asm); (case k4 => k_asm); (case k5 => leaf_len)); (case k7 => k_asm); (case c1 => with_reducible assumption); (case c2 => with_reducible assumption); (case c3 => with_reducible assumption); (case c4 => first | with_reducible assumption | omega | (simp only [List.length_append, List.length_take, List.length_cons, List.length_nil]; omega)); (case c5 => first | with_reducible assumption | omega | (simp only [List.length_append, List.length_take, List.length_cons, List.length_nil]; omega)); (case c6 => first | with_reducible assumption | omega | (simp only [List.length_append, List.length_take, List.length_cons, List.length_nil]; omega)); (case c7 => first | with_reducible assumption | k_extra "kept"); (case k6 => lcg_off); (case kK => first | exact rfl | assumption); (case kd => ktr_room); (case ku => ktr_units)); intro r9 h9 tk9 hx9 F9 N9; (try dsimp only [pairO] at N9); clear hx9; (try k_sweep); (try dsimp only); (try k_fold)))
  k_with "~w146" => open zzfresh in ((k_here; (with_reducible show wpAny _ _ (call (Value.ref 546) _) _ _ _); k_dflt ((refine' Cal.useC (lw_edit _ _ ?c0 _ _ _ _ ?c1 _ ?c2 _ _ _ _ ?c3 ?c4 _ _ ?d0 ?d1 ?d2 ?d3 ?d4 ?d5 ?d6 ?d7 ?d8 ?d9) ?k1 ?k2 ?k3 ?k4 ?k5 ?k6 ?k7 ?kK ?kd ?ku ?_; (case k1 => k_asm); (case k2 => k_asm); (case k3 => k_asm); (case k4 => k_asm); (case k5 => leaf_len)); (case k7 => k_asm); (case c0 => with_reducible assumption); (case c1 => with_reducible assumption); (case c2 => with_reducible assumption); (case c3 => with_reducible assumption); (case c4 => with_reducible assumption); (case d0 => top_caught0); (case d1 => top_caught0); (case d2 => top_caught0); (case d3 => top_caught0); (case d4 => top_caught0); (case d5 => top_caught0); (case d6 => top_caught0); (case d7 => top_caught0); (case d8 => top_caught0); (case d9 => top_caught0); (case k6 => lcg_off); (case kK => first | exact rfl | assumption); (case kd => ktr_room); (case ku => ktr_units)); intro r9 h9 tk9 hx9 F9 N9; (try dsimp only [pairO] at N9); obtain ⟨hE9, hl9⟩ := hx9; (try k_sweep); (try dsimp only); (try k_fold)))
  k_with "~w147" => open zzfresh in (first | (refine' InstAt.of_news ?N ?h1 ?h2; (case N => k_asm); (case h1 => with_reducible refine seg_bx ?hs; nest_cls); (case h2 => with_reducible refine seg_dx ?hs; nest_cls)) | (refine' InstAt.of_news ?N ?h1 ?h2; (case N => k_asm); (case h1 => with_reducible refine seg_m0 ?hs; nest_cls); (case h2 => with_reducible refine seg_d0 ?hs; nest_cls)) | (refine' InstAt.of_news ?N ?h1 ?h2; (case N => k_asm); (case h1 => with_reducible refine seg_m1 ?hs; nest_cls); (case h2 => with_reducible refine seg_d1 ?hs; nest_cls)) | (refine' InstAt.of_news ?N ?h1 ?h2; (case N => k_asm); (case h1 => with_reducible refine seg_m2 ?hs; nest_cls); (case h2 => with_reducible refine seg_d2 ?hs; nest_cls)) | (refine' InstAt.of_news ?N ?h1 ?h2; (case N => k_asm); (case h1 => with_reducible refine seg_m3 ?hs; nest_cls); (case h2 => with_reducible refine seg_d3 ?hs; nest_cls)))
  k_with "~w148" => open zzfresh in ((k_here; (with_reducible show wpAny _ _ (call (Value.ref 454) _) _ _ _); (try (rename LCg.Off1 _ _ => o9; (have o8 := off1_all o9); (have ni9 := ni_off o8 (by nest_cls) (by nest_cls) (by nest_cls)); (have od9 := offD_new (by with_reducible assumption) o8 (by nest_cls)); (have ne9 := off1N_of o9); simp only [Off1N, off1N_app, and_true] at ne9; clear o9)); (try (rename News _ _ _ _ => N5; dsimp only [lst_is] at N5)); k_dflt ((refine' Cal.useC (bf_size _ _ ?c0 _ _ _ _ ?c1) ?k1 ?k2 ?k3 ?k4 ?k5 ?k6 ?k7 ?kK ?kd ?ku ?_; (case k1 => k_asm); (case k2 => k_asm); (case k3 => k_asm); (case k4 => k_asm); (case k5 => leaf_len)); (case k7 => k_asm); (case c0 => with_reducible assumption); (case c1 => with_reducible assumption); (case k6 => lcg_off); (case kK => first | exact rfl | assumption); (case kd => ktr_room); (case ku => ktr_units)); intro r9 h9 tk9 hx9 F9 N9; (try dsimp only [pairO] at N9); clear hx9; (try k_sweep); (try dsimp only); (try k_fold)))
  k_with "~w149" => open zzfresh in ((k_here; (with_reducible show wpAny _ _ (call (Value.ref 468) _) _ _ _); (try (rename LCg.Off1 _ _ => o9; (have o8 := off1_all o9); (have ni9 := ni_off o8 (by nest_cls) (by nest_cls) (by nest_cls)); (have od9 := offD_new (by with_reducible assumption) o8 (by nest_cls)); (have ne9 := off1N_of o9); simp only [Off1N, off1N_app, and_true] at ne9; clear o9)); (try (rename News _ _ _ _ => N5; dsimp only [lst_is] at N5)); k_dflt ((refine' Cal.useC (bf_codes _ _ ?c0 _ _ _ _ ?c1 _ _ _ _ ?c2 ?c3 ?c4) ?k1 ?k2 ?k3 ?k4 ?k5 ?k6 ?k7 ?kK ?kd ?ku ?_; (case k1 => k_asm); (case k2 => k_asm); (case k3 => k_asm); (case k4 => k_asm); (case k5 => leaf_len)); (case k7 => k_asm); (case c0 => with_reducible assumption); (case c1 => with_reducible assumption); (case c2 => top_caught0); (case c3 => top_caught0); (case c4 => top_caught0); (case k6 => lcg_off); (case kK => first | exact rfl | assumption); (case kd => ktr_room); (case ku => ktr_units)); intro r9 h9 tk9 hx9 F9 N9; (try dsimp only [pairO] at N9); (try dsimp only at hx9); obtain ⟨hi9, hl9⟩ := hx9; (try k_lt hl9); (try k_sweep); (try dsimp only); (try k_fold)))
  k_with "~w150" => open zzfresh in ((k_here; (with_reducible show wpAny _ _ (call (Value.ref 515) _) _ _ _); (try (rename LCg.Off1 _ _ => o9; (have o8 := off1_all o9); (have ne9 := off1N_of o9); simp only [Off1N, off1N_app, and_true] at ne9; clear o9)); (try (rename News _ _ _ _ => N5; dsimp only [lst_is] at N5)); k_dflt ((refine' Cal.useC (bf_narrow _ _ ?c0 _ _ _ _ ?c1 _ _ _ _ ?c2 ?c3 ?c4 ?c5) ?k1 ?k2 ?k3 ?k4 ?k5 ?k6 ?k7 ?kK ?kd ?ku ?_; (case k1 => k_asm); (case k2 => k_asm); (case k3 => k_asm); (case k4 => k_asm); (case k5 => leaf_len)); (case k7 => k_asm); (case c0 => with_reducible assumption); (case c1 => with_reducible assumption); (case c2 => top_caught0); (case c3 => top_caught0); (case c4 => top_caught0); (case c5 => top_caught0); (case k6 => lcg_off); (case kK => first | exact rfl | assumption); (case kd => ktr_room); (case ku => ktr_units)); intro r9 h9 tk9 hx9 F9 N9; (try dsimp only [pairO] at N9); (try dsimp only at hx9); obtain ⟨hb9, hz9, hp9⟩ := hx9; (try k_sweep); (try dsimp only); (try k_fold)))
  k_with "~w151" => open zzfresh in ((k_here; (with_reducible show wpAny _ _ (call (Value.ref 454) _) _ _ _); (try (rename LCg.Off1 _ _ => o9; (have o8 := off1_all o9); (have ne9 := off1N_of o9); simp only [Off1N, off1N_app, and_true] at ne9; clear o9)); (try (rename News _ _ _ _ => N5; dsimp only [lst_is] at N5)); k_dflt ((refine' Cal.useC (bf_size _ _ ?c0 _ _ _ _ ?c1) ?k1 ?k2 ?k3 ?k4 ?k5 ?k6 ?k7 ?kK ?kd ?ku ?_; (case k1 => k_asm); (case k2 => k_asm); (case k3 => k_asm); (case k4 => k_asm); (case k5 => leaf_len)); (case k7 => k_asm); (case c0 => with_reducible assumption); (case c1 => with_reducible assumption); (case k6 => lcg_off); (case kK => first | exact rfl | assumption); (case kd => ktr_room); (case ku => ktr_units)); intro r9 h9 tk9 hx9 F9 N9; (try dsimp only [pairO] at N9); clear hx9; (try k_sweep); (try dsimp only); (try k_fold)))
  k_with "~w152" => open zzfresh in ((k_here; (with_reducible show wpAny _ _ (call (Value.ref 522) _) _ _ _); (try (rename LCg.Off1 _ _ => o9; (have o8 := off1_all o9); (have ne9 := off1N_of o9); simp only [Off1N, off1N_app, and_true] at ne9; clear o9)); (try (rename News _ _ _ _ => N5; dsimp only [lst_is] at N5)); k_dflt ((refine' Cal.useC (bf_widen _ _ ?c0 _ _ _ _ ?c1) ?k1 ?k2 ?k3 ?k4 ?k5 ?k6 ?k7 ?kK ?kd ?ku ?_; (case k1 => k_asm); (case k2 => k_asm); (case k3 => k_asm); (case k4 => k_asm); (case k5 => leaf_len)); (case k7 => k_asm); (case c0 => with_reducible assumption); (case c1 => with_reducible assumption); (case k6 => lcg_off); (case kK => first | exact rfl | assumption); (case kd => ktr_room); (case ku => ktr_units)); intro r9 h9 tk9 hx9 F9 N9; (try dsimp only [pairO] at N9); (try dsimp only at hx9); obtain ⟨hb9, hz9, hp9⟩ := hx9; (try k_sweep); (try dsimp only); (try k_fold)))
  k_with "~w153" => open zzfresh in ((k_here; (with_reducible show wpAny _ _ (call (Value.ref 475) _) _ _ _); (try (rename LCg.Off1 _ _ => o9; (have o8 := off1_all o9); (have ne9 := off1N_of o9); simp only [Off1N, off1N_app, and_true] at ne9; clear o9)); (try (rename News _ _ _ _ => N5; dsimp only [lst_is] at N5)); k_dflt ((refine' Cal.useC (bf_goto _ _ ?c0 _ _ _ ?c1) ?k1 ?k2 ?k3 ?k4 ?k5 ?k6 ?k7 ?kK ?kd ?ku ?_; (case k1 => k_asm); (case k2 => k_asm); (case k3 => k_asm); (case k4 => k_asm); (case k5 => leaf_len)); (case k7 => k_asm); (case c0 => with_reducible assumption); (case c1 => top_caught0); (case k6 => lcg_off); (case kK => first | exact rfl | assumption); (case kd => ktr_room); (case ku => ktr_units)); intro r9 h9 tk9 hx9 F9 N9; (try dsimp only [pairO] at N9); (try dsimp only at hx9); obtain ⟨hb9, hz9, hp9⟩ := hx9; (try dsimp only at hb9 hz9 hp9); (try k_sweep); (try dsimp only); (try k_fold)))
  k_with "~w154" => open zzfresh in (first | with_reducible assumption | ((repeat' (first | with_reducible exact off_nil _ | with_reducible exact off_none _ | with_reducible refine off_appL ?_ ?_ | with_reducible refine off_appR ?_ ?_ | with_reducible refine off_consR ?_ ?_)); (all_goals (first | with_reducible assumption | with_reducible exact low_bg (by with_reducible assumption) | with_reducible exact low_gb (by with_reducible assumption) | with_reducible exact low_br (by with_reducible assumption) | with_reducible exact low_rb (by with_reducible assumption) | with_reducible exact low_gr (by with_reducible assumption) | with_reducible exact low_rg (by with_reducible assumption) | with_reducible exact off_bg (by with_reducible assumption) | with_reducible exact off_gb (by with_reducible assumption) | with_reducible exact off_bm (by with_reducible assumption) | with_reducible exact off_mb (by with_reducible assumption) | with_reducible exact off_gm (by with_reducible assumption) | with_reducible exact off_mg (by with_reducible assumption) | with_reducible exact offB_at (by with_reducible assumption) | with_reducible exact offG_at (by with_reducible assumption) | with_reducible exact offM_at (by with_reducible assumption) | with_reducible exact offD_at (by with_reducible assumption) | ((with_reducible refine' off_cons ?kp ?kq); (case kp => first | tlg_ne | (refine all_swap ?_; tlg_ne)); (case kq => lcg_off)) | tlg_ne | exact off_ofL (by with_reducible assumption) | exact off_ofR (by with_reducible assumption)))))
  k_with "~w155" => open zzfresh in (first | with_reducible exact List.forall_mem_nil _ | ((with_reducible refine' List.forall_mem_append.mpr ⟨?a, ?b⟩); (case a => tlg_ne); (case b => tlg_ne)) | ((with_reducible refine' List.forall_mem_cons.mpr ⟨?a, ?b⟩); (case a => k_ne); (case b => tlg_ne)) | with_reducible exact hi_buf (by with_reducible assumption) (by with_reducible assumption) | with_reducible exact hi_gap (by with_reducible assumption) (by with_reducible assumption) | with_reducible exact hi_mk (by with_reducible assumption) (by with_reducible assumption) | with_reducible exact lo_buf (by with_reducible assumption) (by with_reducible assumption) | with_reducible exact lo_gap (by with_reducible assumption) (by with_reducible assumption) | with_reducible exact ldk_buf (by with_reducible assumption) (by with_reducible assumption) | with_reducible exact ldk_gap (by with_reducible assumption) (by with_reducible assumption) | with_reducible exact ldk_rows (by with_reducible assumption) (by with_reducible assumption) | with_reducible exact lhi_buf (by with_reducible assumption) (by with_reducible assumption) | with_reducible exact lhi_gap (by with_reducible assumption) (by with_reducible assumption) | with_reducible exact lhi_rows (by with_reducible assumption) (by with_reducible assumption) | ((with_reducible refine' ldk_buf ?a ?b); (case a => with_reducible assumption); (case b => omega)) | ((with_reducible refine' ldk_gap ?a ?b); (case a => with_reducible assumption); (case b => omega)) | ((with_reducible refine' ldk_rows ?a ?b); (case a => with_reducible assumption); (case b => omega)) | ((with_reducible refine' lhi_buf ?a ?b); (case a => with_reducible assumption); (case b => omega)) | ((with_reducible refine' lhi_gap ?a ?b); (case a => with_reducible assumption); (case b => omega)) | ((with_reducible refine' lhi_rows ?a ?b); (case a => with_reducible assumption); (case b => omega)) | with_reducible exact nif_buf (by with_reducible assumption) | with_reducible exact nif_gap (by with_reducible assumption) | with_reducible exact nif_rows (by with_reducible assumption) | with_reducible exact ni_buf (by with_reducible assumption) | with_reducible exact ni_gap (by with_reducible assumption) | with_reducible exact ni_mk (by with_reducible assumption) | with_reducible exact dk_buf (by with_reducible assumption) (by with_reducible assumption) | with_reducible exact dk_gap (by with_reducible assumption) (by with_reducible assumption) | with_reducible exact dk_mk (by with_reducible assumption) (by with_reducible assumption))
  k_with "~w156" => open zzfresh in ((k_here; (with_reducible show wpAny _ _ (call (Value.ref 506) _) _ _ _); (try (rename LCg.Off1 _ _ => o9; (have o8 := off1_all o9); (have ne9 := off1N_of o9); simp only [Off1N, off1N_app, and_true] at ne9; clear o9)); (try (rename News _ _ _ _ => N5; dsimp only [lst_is] at N5)); k_dflt ((refine' Cal.useC (lw_buffer _ _ _ _ _ ?c1 ?c2) ?k1 ?k2 ?k3 ?k4 ?k5 ?k6 ?k7 ?kK ?kd ?ku ?_; (case k1 => k_asm); (case k2 => k_asm); (case k3 => k_asm); (case k4 => k_asm); (case k5 => exact Cut.nil _)); (case k7 => k_asm); (case c1 => top_caught0); (case c2 => top_caught0); (case k6 => lcg_off); (case kK => first | exact rfl | assumption); (case kd => ktr_room); (case ku => ktr_units)); intro r9 h9 tk9 hx9 F9 N9; (try dsimp only [pairO] at N9); obtain ⟨hr9, hx8, hg9, hd9, hx7⟩ := hx9; (have hL9 := low_of hx8); (have la9 := hr9); (try (have lo9 := lo_of la9 (by nest_cls))); (try (replace hr9 := allLt_of hr9; simp only [AllLt, allLt_app, and_true] at hr9)); (try (have hk9 := hr9.1)); (try k_sweep); (try dsimp only); (try k_fold)))
  k_with "~w157" => open zzfresh in ((k_here; (with_reducible show wpAny _ _ (call (Value.ref 127) _) _ _ _); (try (rename LCg.Off1 _ _ => o9; (have o8 := off1_all o9); (have ne9 := off1N_of o9); simp only [Off1N, off1N_app, and_true] at ne9; clear o9)); (try (rename News _ _ _ _ => N5; dsimp only [lst_is] at N5)); (try (have ni9 := far_ni o8 (by nest_cls) (by nest_cls) (by nest_cls))); k_dflt ((refine' Cal.useC (bf_insert0L _ _ ?c0 _ _ _ _ ?c1 _ _ ?c2 _ _ _ _ ?c4 ?d0 ?d1 ?d2 ?d3 ?d4 ?d5 ?d6 ?d7) ?k1 ?k2 ?k3 ?k4 ?k5 ?k6 ?k7 ?kK ?kd ?ku ?_; (case k1 => k_asm); (case k2 => k_asm); (case k3 => k_asm); (case k4 => k_asm); (case k5 => leaf_len)); (case k7 => k_asm); (case c0 => with_reducible assumption); (case c1 => with_reducible assumption); (case c2 => with_reducible assumption); (case c4 => with_reducible assumption); (case d0 => first | with_reducible assumption | omega | (simp only [List.length_nil]; omega) | (simp only [List.length_map, rangeKs_length]; omega)); (case d1 => first | with_reducible assumption | omega | (simp only [List.length_nil]; omega) | (simp only [List.length_map, rangeKs_length]; omega)); (case d2 => first | with_reducible assumption | omega | (simp only [List.length_nil]; omega) | (simp only [List.length_map, rangeKs_length]; omega)); (case d3 => first | with_reducible assumption | omega | (simp only [List.length_nil]; omega) | (simp only [List.length_map, rangeKs_length]; omega)); (case d4 => first | with_reducible assumption | omega | (simp only [List.length_nil]; omega) | (simp only [List.length_map, rangeKs_length]; omega)); (case d5 => first | with_reducible assumption | omega | (simp only [List.length_nil]; omega) | (simp only [List.length_map, rangeKs_length]; omega)); (case d6 => with_reducible assumption); (case d7 => first | with_reducible assumption | omega | (simp only [List.length_nil]; omega) | (simp only [List.length_map, rangeKs_length]; omega)); (case k6 => lcg_off); (case kK => first | exact rfl | assumption); (case kd => ktr_room); (case ku => ktr_units)); intro r9 h9 tk9 hx9 F9 N9; (try dsimp only [pairO] at N9); (try dsimp only at hx9); obtain ⟨hb9, hz9, hp9, hg9⟩ := hx9; (try simp only [List.take_nil, List.drop_nil, List.nil_append, List.append_nil] at hg9); obtain ⟨t9, hg9, hl9⟩ := gap_gen hg9; simp only [List.length_map, rangeKs_length] at hz9 hp9; (try k_sweep); (try dsimp only); (try k_fold)))
  k_with "~w158" => open zzfresh in ((k_here; (with_reducible show wpAny _ _ (call (Value.ref 332) _) _ _ _); (try (rename LCg.Off1 _ _ => o9; (have o8 := off1_all o9); (have ne9 := off1N_of o9); simp only [Off1N, off1N_app, and_true] at ne9; clear o9)); (try (rename News _ _ _ _ => N5; dsimp only [lst_is] at N5)); k_dflt ((refine' Cal.useC (lw_marker _ _ _ _) ?k1 ?k2 ?k3 ?k4 ?k5 ?k6 ?k7 ?kK ?kd ?ku ?_; (case k1 => k_asm); (case k2 => k_asm); (case k3 => k_asm); (case k4 => k_asm); (case k5 => exact Cut.nil _)); (case k7 => k_asm); (case k6 => lcg_off); (case kK => first | exact rfl | assumption); (case kd => ktr_room); (case ku => ktr_units)); intro r9 h9 tk9 hx9 F9 N9; (try dsimp only [pairO] at N9); obtain ⟨hr9, hx8, hx7, hx6, hx5, hx4⟩ := hx9; (have la9 := hr9); (try (have lo9 := lo_of la9 (by nest_cls))); (try (replace hr9 := allLt_of hr9; simp only [AllLt, allLt_app, and_true] at hr9)); (try k_sweep); (try dsimp only); (try k_fold)))
  trivial

section
open PySem PySem.W PyProof.Rows
namespace Mine.H
open PySem PySem.W PySem.Calls
abbrev pw : Program := PySem.Challenge.pw_pq0288_01
noncomputable def atS : List Stmt → Nat → Stmt
  | [], _ => .Pass ⟨0, 0, 0, 0⟩
  | x :: _, 0 => x
  | _ :: r, n + 1 => atS r n
noncomputable def inC : Stmt → List Stmt
  | .ClassDef _ _ _ b .. => b
  | _ => []
noncomputable def st (i : Nat) : Stmt := atS pw.main.body i
noncomputable def ms (i j : Nat) : Stmt := atS (inC (st i)) j
noncomputable def fD (s : Stmt) (q : Str) (d m c : Value) : Data := match s with
  | .FunctionDef n a b _ _ _ sc _ _ _ => .func { name := n, qualname := q, params := a, body := .stmts b, scope := sc, globals := mainGlobals, closure := [], defaults := d, kwdefaults := .none, doc := .none, pyModule := m, annotations := none, code := c, closureTuple := .none, builtins := builtinsNs }
  | _ => .plain
noncomputable def fZ (s : Stmt) (q : Str) : Data := match s with
  | .FunctionDef n a b _ _ _ sc _ _ _ => .func { name := n, qualname := q, params := a, body := .stmts b, scope := sc, globals := 0, closure := [], defaults := .none, kwdefaults := .none, doc := .none, pyModule := .none, annotations := none, code := .none, closureTuple := .none, builtins := 0 }
  | _ => .plain
noncomputable def cD (n : Str) (bs mro : List Value) (ns : Addr) (q : Str) (subs : List Value) : Data := .cls { name := n, bases := bs, mro := mro, ns := ns, qualname := q, subclasses := subs }
abbrev D (P : Params) (s : Str) (t : Nat) (v : Value) : DictEntry := ⟨PyData.keyHash P s, .str s t, v⟩
abbrev N := BT.node
abbrev Z := BT.nil
noncomputable section
noncomputable def o11 (P : Params) : Obj := ⟨(.type "tuple"), none, (.seq [].toArray 0), [].toArray⟩
noncomputable def o12 (P : Params) : Obj := ⟨.none, none, (.fields [].toArray), [].toArray⟩
noncomputable def o13 (P : Params) : Obj := ⟨(.type "code"), none, (.fields [(.str (Str.ofString "<module>") 182), (.str (Str.ofString "<module>") 183), (.str (Str.ofString "/claim/cut.py") 184), (.int 1 0), (.int 0 0), (.int 0 0), (.int 0 0), (.int 0 0), (.ref 11), (.bool false), (.int 181 0), (.ref 12), .none, .none, .none, .none, (.int 185 0), (.int 1 0), (.str (Str.ofString "/claim/cut.py") 186)].toArray), [].toArray⟩
noncomputable def o14 (P : Params) : Obj := ⟨(.type "frame"), none, .plain, [(some (.ref 13)), (some (.ref 3)), (some (.ref 3)), none, (some (.str (Str.ofString "__main__") 164)), none, (some (.ref 0))].toArray⟩
noncomputable def t0 (P : Params) : BT := (N (PySem.W.boot_o_0 P) (N (PySem.W.boot_o_1 P) (N (PySem.W.boot_o_3 P) (N (PySem.W.boot_o_7 P) Z Z) (N (o11 P) Z Z)) (N (PySem.W.boot_o_5 P) (N (PySem.W.boot_o_9 P) Z Z) (N (o13 P) Z Z))) (N (PySem.W.boot_o_2 P) (N (PySem.W.boot_o_4 P) (N (PySem.W.boot_o_8 P) Z Z) (N (o12 P) Z Z)) (N (PySem.W.boot_o_6 P) (N (PySem.W.boot_o_10 P) Z Z) (N (o14 P) Z Z))))
-- boundary 0: upto 0, objs 15, toks 187, pos ⟨0, 0, 0, 0⟩, steps 0
noncomputable def o2_1 (P : Params) : Obj := ⟨.none, none, (.dict [D P (Str.ofString "type.__subclasses__.Exception.0") 223 (.int 38 0), D P (Str.ofString "type.__subclasses__.Exception.n") 224 (.int 1 0)].toArray 2), [].toArray⟩
noncomputable def o3_1 (P : Params) : Obj := ⟨(.type "dict"), none, (.dict [D P (Str.ofString "__name__") 165 (.str (Str.ofString "emacs.editing") 227), D P (Str.ofString "__doc__") 166 .none, D P (Str.ofString "__package__") 167 .none, D P (Str.ofString "__loader__") 168 (.builtin "__main__.__loader__#opaque"), D P (Str.ofString "__spec__") 169 .none, D P (Str.ofString "__annotations__") 170 (.ref 6), D P (Str.ofString "__builtins__") 171 (.ref 4), D P (Str.ofString "__file__") 173 (.str (Str.ofString "/claim/cut.py") 172), D P (Str.ofString "__cached__") 174 .none, D P (Str.ofString "_wall") 193 (.ref 21), D P (Str.ofString "LispSignal") 226 (.ref 38), D P (Str.ofString "LONGEST") 232 (.int 4194304 231), D P (Str.ofString "need_writable") 239 (.ref 48), D P (Str.ofString "need_room") 247 (.ref 55), D P (Str.ofString "reached") 258 (.ref 62), D P (Str.ofString "tell_ahead") 268 (.ref 69), D P (Str.ofString "tell_behind") 279 (.ref 76), D P (Str.ofString "text_out") 289 (.ref 83), D P (Str.ofString "text_in") 298 (.ref 90), D P (Str.ofString "hung_out") 307 (.ref 97), D P (Str.ofString "hung_in") 317 (.ref 104), D P (Str.ofString "put_in") 328 (.ref 111), D P (Str.ofString "insert_at") 338 (.ref 119), D P (Str.ofString "insert") 347 (.ref 127), D P (Str.ofString "delete") 359 (.ref 134), D P (Str.ofString "rows_moved") 365 (.ref 139), D P (Str.ofString "replace") 380 (.ref 147), D P (Str.ofString "change_sign") 389 (.ref 154), D P (Str.ofString "subst_codes") 404 (.ref 161), D P (Str.ofString "transpose_regions") 419 (.ref 168)].toArray 30), [].toArray⟩
noncomputable def o12_1 (P : Params) : Obj := ⟨.none, none, (.fields [(.int 1 0), (.int 0 0), (.ref 20), (.int 5 0), (.int 0 0), (.ref 27), (.int 12 0), (.int 0 0), (.ref 47), (.int 15 0), (.int 0 0), (.ref 54), (.int 18 0), (.int 0 0), (.ref 61), (.int 23 0), (.int 0 0), (.ref 68), (.int 26 0), (.int 0 0), (.ref 75), (.int 30 0), (.int 0 0), (.ref 82), (.int 38 0), (.int 0 0), (.ref 89), (.int 45 0), (.int 0 0), (.ref 96), (.int 50 0), (.int 0 0), (.ref 103), (.int 55 0), (.int 0 0), (.ref 110), (.int 68 0), (.int 0 0), (.ref 118), (.int 70 0), (.int 0 0), (.ref 126), (.int 72 0), (.int 0 0), (.ref 133), (.int 83 0), (.int 0 0), (.ref 138), (.int 88 0), (.int 0 0), (.ref 146), (.int 110 0), (.int 0 0), (.ref 153), (.int 119 0), (.int 0 0), (.ref 160), (.int 127 0), (.int 0 0), (.ref 167)].toArray), [].toArray⟩
noncomputable def o15 (P : Params) : Obj := ⟨(.type "tuple"), none, (.seq [].toArray 0), [].toArray⟩
noncomputable def o16 (P : Params) : Obj := ⟨.none, none, (.fields [].toArray), [].toArray⟩
noncomputable def o17 (P : Params) : Obj := ⟨(.type "tuple"), none, (.seq [(.str (Str.ofString "k") 190)].toArray 0), [].toArray⟩
noncomputable def o18 (P : Params) : Obj := ⟨(.type "tuple"), none, (.seq [].toArray 0), [].toArray⟩
noncomputable def o19 (P : Params) : Obj := ⟨.none, none, (fZ (st 0) (Str.ofString "_wall")), [].toArray⟩
noncomputable def o20 (P : Params) : Obj := ⟨(.type "code"), none, (.fields [(.str (Str.ofString "_wall") 187), (.str (Str.ofString "_wall") 188), (.str (Str.ofString "/claim/cut.py") 189), (.int 1 0), (.int 1 0), (.int 0 0), (.int 0 0), (.int 3 0), (.ref 15), (.bool true), (.int 181 0), (.ref 16), .none, (.ref 17), (.ref 18), (.ref 19), (.int 191 0), (.int 1 0), (.str (Str.ofString "/claim/cut.py") 192)].toArray), [].toArray⟩
noncomputable def o21 (P : Params) : Obj := ⟨(.type "function"), none, (fD (st 0) (Str.ofString "_wall") .none (.str (Str.ofString "__main__") 164) (.ref 20)), [].toArray⟩
noncomputable def o22 (P : Params) : Obj := ⟨(.type "tuple"), none, (.seq [(.type "Exception")].toArray 0), [].toArray⟩
noncomputable def o23 (P : Params) : Obj := ⟨(.type "builtin_function_or_method"), none, (.fields [(.builtin "type.__prepare__"), (.type "type")].toArray), [].toArray⟩
noncomputable def o24 (P : Params) : Obj := ⟨(.type "dict"), none, (.dict [D P (Str.ofString "__module__") 203 (.str (Str.ofString "emacs.errors") 194), D P (Str.ofString "__qualname__") 205 (.str (Str.ofString "LispSignal") 204), D P (Str.ofString "__firstlineno__") 207 (.int 5 206), D P (Str.ofString "__init__") 216 (.ref 35), D P (Str.ofString "__static_attributes__") 219 (.ref 36)].toArray 5), [].toArray⟩
noncomputable def o25 (P : Params) : Obj := ⟨(.type "tuple"), none, (.seq [].toArray 0), [].toArray⟩
noncomputable def o26 (P : Params) : Obj := ⟨.none, none, (.fields [(.int 7 0), (.int 4 0), (.ref 34)].toArray), [].toArray⟩
noncomputable def o27 (P : Params) : Obj := ⟨(.type "code"), none, (.fields [(.str (Str.ofString "LispSignal") 198), (.str (Str.ofString "LispSignal") 199), (.str (Str.ofString "/claim/cut.py") 200), (.int 5 0), (.int 0 0), (.int 0 0), (.int 0 0), (.int 0 0), (.ref 25), (.bool false), (.int 181 0), (.ref 26), .none, .none, .none, .none, (.int 201 0), (.int 5 0), (.str (Str.ofString "/claim/cut.py") 202)].toArray), [].toArray⟩
noncomputable def o28 (P : Params) : Obj := ⟨(.type "frame"), none, .plain, [(some (.ref 27)), (some (.ref 3)), (some (.ref 24)), none, (some (.str (Str.ofString "emacs.errors") 194)), none, (some (.ref 0))].toArray⟩
noncomputable def o29 (P : Params) : Obj := ⟨(.type "tuple"), none, (.seq [].toArray 0), [].toArray⟩
noncomputable def o30 (P : Params) : Obj := ⟨.none, none, (.fields [].toArray), [].toArray⟩
noncomputable def o31 (P : Params) : Obj := ⟨(.type "tuple"), none, (.seq [(.str (Str.ofString "self") 211), (.str (Str.ofString "symbol") 212), (.str (Str.ofString "data") 213)].toArray 0), [].toArray⟩
noncomputable def o32 (P : Params) : Obj := ⟨(.type "tuple"), none, (.seq [].toArray 0), [].toArray⟩
noncomputable def o33 (P : Params) : Obj := ⟨.none, none, (fZ (ms 2 0) (Str.ofString "LispSignal.__init__")), [].toArray⟩
noncomputable def o34 (P : Params) : Obj := ⟨(.type "code"), none, (.fields [(.str (Str.ofString "__init__") 208), (.str (Str.ofString "LispSignal.__init__") 209), (.str (Str.ofString "/claim/cut.py") 210), (.int 7 0), (.int 3 0), (.int 0 0), (.int 0 0), (.int 3 0), (.ref 29), (.bool true), (.int 181 0), (.ref 30), .none, (.ref 31), (.ref 32), (.ref 33), (.int 214 0), (.int 7 0), (.str (Str.ofString "/claim/cut.py") 215)].toArray), [].toArray⟩
noncomputable def o35 (P : Params) : Obj := ⟨(.type "function"), none, (fD (ms 2 0) (Str.ofString "LispSignal.__init__") .none (.str (Str.ofString "emacs.errors") 194) (.ref 34)), [].toArray⟩
noncomputable def o36 (P : Params) : Obj := ⟨(.type "tuple"), none, (.seq [(.str (Str.ofString "data") 217), (.str (Str.ofString "symbol") 218)].toArray 0), [].toArray⟩
noncomputable def o37 (P : Params) : Obj := ⟨(.type "dict"), none, (.dict [D P (Str.ofString "__module__") 203 (.str (Str.ofString "emacs.errors") 194), D P (Str.ofString "__firstlineno__") 207 (.int 5 206), D P (Str.ofString "__init__") 216 (.ref 35), D P (Str.ofString "__static_attributes__") 219 (.ref 36), D P (Str.ofString "__weakref__") 221 (.ref 39), D P (Str.ofString "__doc__") 222 .none].toArray 3), [].toArray⟩
noncomputable def o38 (P : Params) : Obj := ⟨(.type "type"), none, (cD (Str.ofString "LispSignal") [(.type "Exception")] [(.ref 38), (.type "Exception"), (.type "BaseException"), (.type "object")] 37 (Str.ofString "LispSignal") []), [(some (.ref 22)), none, (some (.str (Str.ofString "LispSignal") 196)), (some (.str (Str.ofString "LispSignal") 204)), (some (.builtin "Exception.__new__")), (some (.bool true))].toArray⟩
noncomputable def o39 (P : Params) : Obj := ⟨(.type "getset_descriptor"), none, (.fields [(.str (Str.ofString "__weakref__") 220), (.ref 38), (.builtin "ExceptionGroup.__weakref__"), .none].toArray), [].toArray⟩
noncomputable def o40 (P : Params) : Obj := ⟨(.type "super"), none, (.fields [(.ref 38), (.ref 38), (.ref 38)].toArray), [].toArray⟩
noncomputable def o41 (P : Params) : Obj := ⟨(.type "builtin_function_or_method"), none, (.fields [(.builtin "object.__init_subclass__"), (.ref 38)].toArray), [].toArray⟩
noncomputable def o42 (P : Params) : Obj := ⟨(.type "tuple"), none, (.seq [].toArray 0), [].toArray⟩
noncomputable def o43 (P : Params) : Obj := ⟨.none, none, (.fields [].toArray), [].toArray⟩
noncomputable def o44 (P : Params) : Obj := ⟨(.type "tuple"), none, (.seq [(.str (Str.ofString "buffer") 236)].toArray 0), [].toArray⟩
noncomputable def o45 (P : Params) : Obj := ⟨(.type "tuple"), none, (.seq [].toArray 0), [].toArray⟩
noncomputable def o46 (P : Params) : Obj := ⟨.none, none, (fZ (st 5) (Str.ofString "need_writable")), [].toArray⟩
noncomputable def o47 (P : Params) : Obj := ⟨(.type "code"), none, (.fields [(.str (Str.ofString "need_writable") 233), (.str (Str.ofString "need_writable") 234), (.str (Str.ofString "/claim/cut.py") 235), (.int 12 0), (.int 1 0), (.int 0 0), (.int 0 0), (.int 3 0), (.ref 42), (.bool true), (.int 181 0), (.ref 43), .none, (.ref 44), (.ref 45), (.ref 46), (.int 237 0), (.int 12 0), (.str (Str.ofString "/claim/cut.py") 238)].toArray), [].toArray⟩
noncomputable def o48 (P : Params) : Obj := ⟨(.type "function"), none, (fD (st 5) (Str.ofString "need_writable") .none (.str (Str.ofString "emacs.editing") 227) (.ref 47)), [].toArray⟩
noncomputable def o49 (P : Params) : Obj := ⟨(.type "tuple"), none, (.seq [].toArray 0), [].toArray⟩
noncomputable def o50 (P : Params) : Obj := ⟨.none, none, (.fields [].toArray), [].toArray⟩
noncomputable def o51 (P : Params) : Obj := ⟨(.type "tuple"), none, (.seq [(.str (Str.ofString "buffer") 243), (.str (Str.ofString "growth") 244)].toArray 0), [].toArray⟩
noncomputable def o52 (P : Params) : Obj := ⟨(.type "tuple"), none, (.seq [].toArray 0), [].toArray⟩
noncomputable def o53 (P : Params) : Obj := ⟨.none, none, (fZ (st 6) (Str.ofString "need_room")), [].toArray⟩
noncomputable def o54 (P : Params) : Obj := ⟨(.type "code"), none, (.fields [(.str (Str.ofString "need_room") 240), (.str (Str.ofString "need_room") 241), (.str (Str.ofString "/claim/cut.py") 242), (.int 15 0), (.int 2 0), (.int 0 0), (.int 0 0), (.int 3 0), (.ref 49), (.bool true), (.int 181 0), (.ref 50), .none, (.ref 51), (.ref 52), (.ref 53), (.int 245 0), (.int 15 0), (.str (Str.ofString "/claim/cut.py") 246)].toArray), [].toArray⟩
noncomputable def o55 (P : Params) : Obj := ⟨(.type "function"), none, (fD (st 6) (Str.ofString "need_room") .none (.str (Str.ofString "emacs.editing") 227) (.ref 54)), [].toArray⟩
noncomputable def o56 (P : Params) : Obj := ⟨(.type "tuple"), none, (.seq [].toArray 0), [].toArray⟩
noncomputable def o57 (P : Params) : Obj := ⟨.none, none, (.fields [].toArray), [].toArray⟩
noncomputable def o58 (P : Params) : Obj := ⟨(.type "tuple"), none, (.seq [(.str (Str.ofString "buffer") 251), (.str (Str.ofString "start") 252), (.str (Str.ofString "end") 253), (.str (Str.ofString "low") 254), (.str (Str.ofString "high") 255)].toArray 0), [].toArray⟩
noncomputable def o59 (P : Params) : Obj := ⟨(.type "tuple"), none, (.seq [].toArray 0), [].toArray⟩
noncomputable def o60 (P : Params) : Obj := ⟨.none, none, (fZ (st 7) (Str.ofString "reached")), [].toArray⟩
noncomputable def o61 (P : Params) : Obj := ⟨(.type "code"), none, (.fields [(.str (Str.ofString "reached") 248), (.str (Str.ofString "reached") 249), (.str (Str.ofString "/claim/cut.py") 250), (.int 18 0), (.int 3 0), (.int 0 0), (.int 0 0), (.int 3 0), (.ref 56), (.bool true), (.int 181 0), (.ref 57), .none, (.ref 58), (.ref 59), (.ref 60), (.int 256 0), (.int 18 0), (.str (Str.ofString "/claim/cut.py") 257)].toArray), [].toArray⟩
noncomputable def o62 (P : Params) : Obj := ⟨(.type "function"), none, (fD (st 7) (Str.ofString "reached") .none (.str (Str.ofString "emacs.editing") 227) (.ref 61)), [].toArray⟩
noncomputable def o63 (P : Params) : Obj := ⟨(.type "tuple"), none, (.seq [].toArray 0), [].toArray⟩
noncomputable def o64 (P : Params) : Obj := ⟨.none, none, (.fields [].toArray), [].toArray⟩
noncomputable def o65 (P : Params) : Obj := ⟨(.type "tuple"), none, (.seq [(.str (Str.ofString "buffer") 262), (.str (Str.ofString "start") 263), (.str (Str.ofString "end") 264), (.str (Str.ofString "listener") 265)].toArray 0), [].toArray⟩
noncomputable def o66 (P : Params) : Obj := ⟨(.type "tuple"), none, (.seq [].toArray 0), [].toArray⟩
noncomputable def o67 (P : Params) : Obj := ⟨.none, none, (fZ (st 8) (Str.ofString "tell_ahead")), [].toArray⟩
noncomputable def o68 (P : Params) : Obj := ⟨(.type "code"), none, (.fields [(.str (Str.ofString "tell_ahead") 259), (.str (Str.ofString "tell_ahead") 260), (.str (Str.ofString "/claim/cut.py") 261), (.int 23 0), (.int 3 0), (.int 0 0), (.int 0 0), (.int 3 0), (.ref 63), (.bool true), (.int 181 0), (.ref 64), .none, (.ref 65), (.ref 66), (.ref 67), (.int 266 0), (.int 23 0), (.str (Str.ofString "/claim/cut.py") 267)].toArray), [].toArray⟩
noncomputable def o69 (P : Params) : Obj := ⟨(.type "function"), none, (fD (st 8) (Str.ofString "tell_ahead") .none (.str (Str.ofString "emacs.editing") 227) (.ref 68)), [].toArray⟩
noncomputable def o70 (P : Params) : Obj := ⟨(.type "tuple"), none, (.seq [].toArray 0), [].toArray⟩
noncomputable def o71 (P : Params) : Obj := ⟨.none, none, (.fields [].toArray), [].toArray⟩
noncomputable def o72 (P : Params) : Obj := ⟨(.type "tuple"), none, (.seq [(.str (Str.ofString "buffer") 272), (.str (Str.ofString "start") 273), (.str (Str.ofString "end") 274), (.str (Str.ofString "old_length") 275), (.str (Str.ofString "listener") 276)].toArray 0), [].toArray⟩
noncomputable def o73 (P : Params) : Obj := ⟨(.type "tuple"), none, (.seq [].toArray 0), [].toArray⟩
noncomputable def o74 (P : Params) : Obj := ⟨.none, none, (fZ (st 9) (Str.ofString "tell_behind")), [].toArray⟩
noncomputable def o75 (P : Params) : Obj := ⟨(.type "code"), none, (.fields [(.str (Str.ofString "tell_behind") 269), (.str (Str.ofString "tell_behind") 270), (.str (Str.ofString "/claim/cut.py") 271), (.int 26 0), (.int 4 0), (.int 0 0), (.int 0 0), (.int 3 0), (.ref 70), (.bool true), (.int 181 0), (.ref 71), .none, (.ref 72), (.ref 73), (.ref 74), (.int 277 0), (.int 26 0), (.str (Str.ofString "/claim/cut.py") 278)].toArray), [].toArray⟩
noncomputable def o76 (P : Params) : Obj := ⟨(.type "function"), none, (fD (st 9) (Str.ofString "tell_behind") .none (.str (Str.ofString "emacs.editing") 227) (.ref 75)), [].toArray⟩
noncomputable def o77 (P : Params) : Obj := ⟨(.type "tuple"), none, (.seq [].toArray 0), [].toArray⟩
noncomputable def o78 (P : Params) : Obj := ⟨.none, none, (.fields [].toArray), [].toArray⟩
noncomputable def o79 (P : Params) : Obj := ⟨(.type "tuple"), none, (.seq [(.str (Str.ofString "buffer") 283), (.str (Str.ofString "start") 284), (.str (Str.ofString "end") 285), (.str (Str.ofString "gone") 286)].toArray 0), [].toArray⟩
noncomputable def o80 (P : Params) : Obj := ⟨(.type "tuple"), none, (.seq [].toArray 0), [].toArray⟩
noncomputable def o81 (P : Params) : Obj := ⟨.none, none, (fZ (st 10) (Str.ofString "text_out")), [].toArray⟩
noncomputable def o82 (P : Params) : Obj := ⟨(.type "code"), none, (.fields [(.str (Str.ofString "text_out") 280), (.str (Str.ofString "text_out") 281), (.str (Str.ofString "/claim/cut.py") 282), (.int 30 0), (.int 3 0), (.int 0 0), (.int 0 0), (.int 3 0), (.ref 77), (.bool true), (.int 181 0), (.ref 78), .none, (.ref 79), (.ref 80), (.ref 81), (.int 287 0), (.int 30 0), (.str (Str.ofString "/claim/cut.py") 288)].toArray), [].toArray⟩
noncomputable def o83 (P : Params) : Obj := ⟨(.type "function"), none, (fD (st 10) (Str.ofString "text_out") .none (.str (Str.ofString "emacs.editing") 227) (.ref 82)), [].toArray⟩
noncomputable def o84 (P : Params) : Obj := ⟨(.type "tuple"), none, (.seq [].toArray 0), [].toArray⟩
noncomputable def o85 (P : Params) : Obj := ⟨.none, none, (.fields [].toArray), [].toArray⟩
noncomputable def o86 (P : Params) : Obj := ⟨(.type "tuple"), none, (.seq [(.str (Str.ofString "buffer") 293), (.str (Str.ofString "place") 294), (.str (Str.ofString "codes") 295)].toArray 0), [].toArray⟩
noncomputable def o87 (P : Params) : Obj := ⟨(.type "tuple"), none, (.seq [].toArray 0), [].toArray⟩
noncomputable def o88 (P : Params) : Obj := ⟨.none, none, (fZ (st 11) (Str.ofString "text_in")), [].toArray⟩
noncomputable def o89 (P : Params) : Obj := ⟨(.type "code"), none, (.fields [(.str (Str.ofString "text_in") 290), (.str (Str.ofString "text_in") 291), (.str (Str.ofString "/claim/cut.py") 292), (.int 38 0), (.int 3 0), (.int 0 0), (.int 0 0), (.int 3 0), (.ref 84), (.bool true), (.int 181 0), (.ref 85), .none, (.ref 86), (.ref 87), (.ref 88), (.int 296 0), (.int 38 0), (.str (Str.ofString "/claim/cut.py") 297)].toArray), [].toArray⟩
noncomputable def o90 (P : Params) : Obj := ⟨(.type "function"), none, (fD (st 11) (Str.ofString "text_in") .none (.str (Str.ofString "emacs.editing") 227) (.ref 89)), [].toArray⟩
noncomputable def o91 (P : Params) : Obj := ⟨(.type "tuple"), none, (.seq [].toArray 0), [].toArray⟩
noncomputable def o92 (P : Params) : Obj := ⟨.none, none, (.fields [].toArray), [].toArray⟩
noncomputable def o93 (P : Params) : Obj := ⟨(.type "tuple"), none, (.seq [(.str (Str.ofString "buffer") 302), (.str (Str.ofString "start") 303), (.str (Str.ofString "end") 304)].toArray 0), [].toArray⟩
noncomputable def o94 (P : Params) : Obj := ⟨(.type "tuple"), none, (.seq [].toArray 0), [].toArray⟩
noncomputable def o95 (P : Params) : Obj := ⟨.none, none, (fZ (st 12) (Str.ofString "hung_out")), [].toArray⟩
noncomputable def o96 (P : Params) : Obj := ⟨(.type "code"), none, (.fields [(.str (Str.ofString "hung_out") 299), (.str (Str.ofString "hung_out") 300), (.str (Str.ofString "/claim/cut.py") 301), (.int 45 0), (.int 3 0), (.int 0 0), (.int 0 0), (.int 3 0), (.ref 91), (.bool true), (.int 181 0), (.ref 92), .none, (.ref 93), (.ref 94), (.ref 95), (.int 305 0), (.int 45 0), (.str (Str.ofString "/claim/cut.py") 306)].toArray), [].toArray⟩
noncomputable def o97 (P : Params) : Obj := ⟨(.type "function"), none, (fD (st 12) (Str.ofString "hung_out") .none (.str (Str.ofString "emacs.editing") 227) (.ref 96)), [].toArray⟩
noncomputable def o98 (P : Params) : Obj := ⟨(.type "tuple"), none, (.seq [].toArray 0), [].toArray⟩
noncomputable def o99 (P : Params) : Obj := ⟨.none, none, (.fields [].toArray), [].toArray⟩
noncomputable def o100 (P : Params) : Obj := ⟨(.type "tuple"), none, (.seq [(.str (Str.ofString "buffer") 311), (.str (Str.ofString "place") 312), (.str (Str.ofString "many") 313), (.str (Str.ofString "before_markers") 314)].toArray 0), [].toArray⟩
noncomputable def o101 (P : Params) : Obj := ⟨(.type "tuple"), none, (.seq [].toArray 0), [].toArray⟩
noncomputable def o102 (P : Params) : Obj := ⟨.none, none, (fZ (st 13) (Str.ofString "hung_in")), [].toArray⟩
noncomputable def o103 (P : Params) : Obj := ⟨(.type "code"), none, (.fields [(.str (Str.ofString "hung_in") 308), (.str (Str.ofString "hung_in") 309), (.str (Str.ofString "/claim/cut.py") 310), (.int 50 0), (.int 4 0), (.int 0 0), (.int 0 0), (.int 3 0), (.ref 98), (.bool true), (.int 181 0), (.ref 99), .none, (.ref 100), (.ref 101), (.ref 102), (.int 315 0), (.int 50 0), (.str (Str.ofString "/claim/cut.py") 316)].toArray), [].toArray⟩
noncomputable def o104 (P : Params) : Obj := ⟨(.type "function"), none, (fD (st 13) (Str.ofString "hung_in") .none (.str (Str.ofString "emacs.editing") 227) (.ref 103)), [].toArray⟩
noncomputable def o105 (P : Params) : Obj := ⟨(.type "tuple"), none, (.seq [].toArray 0), [].toArray⟩
noncomputable def o106 (P : Params) : Obj := ⟨.none, none, (.fields [].toArray), [].toArray⟩
noncomputable def o107 (P : Params) : Obj := ⟨(.type "tuple"), none, (.seq [(.str (Str.ofString "buffer") 321), (.str (Str.ofString "place") 322), (.str (Str.ofString "codes") 323), (.str (Str.ofString "before_markers") 324), (.str (Str.ofString "is_point_behind") 325)].toArray 0), [].toArray⟩
noncomputable def o108 (P : Params) : Obj := ⟨(.type "tuple"), none, (.seq [].toArray 0), [].toArray⟩
noncomputable def o109 (P : Params) : Obj := ⟨.none, none, (fZ (st 14) (Str.ofString "put_in")), [].toArray⟩
noncomputable def o110 (P : Params) : Obj := ⟨(.type "code"), none, (.fields [(.str (Str.ofString "put_in") 318), (.str (Str.ofString "put_in") 319), (.str (Str.ofString "/claim/cut.py") 320), (.int 55 0), (.int 5 0), (.int 0 0), (.int 0 0), (.int 3 0), (.ref 105), (.bool true), (.int 181 0), (.ref 106), .none, (.ref 107), (.ref 108), (.ref 109), (.int 326 0), (.int 55 0), (.str (Str.ofString "/claim/cut.py") 327)].toArray), [].toArray⟩
noncomputable def o111 (P : Params) : Obj := ⟨(.type "function"), none, (fD (st 14) (Str.ofString "put_in") .none (.str (Str.ofString "emacs.editing") 227) (.ref 110)), [].toArray⟩
noncomputable def o112 (P : Params) : Obj := ⟨(.type "tuple"), none, (.seq [(.bool false)].toArray 0), [].toArray⟩
noncomputable def o113 (P : Params) : Obj := ⟨(.type "tuple"), none, (.seq [].toArray 0), [].toArray⟩
noncomputable def o114 (P : Params) : Obj := ⟨.none, none, (.fields [].toArray), [].toArray⟩
noncomputable def o115 (P : Params) : Obj := ⟨(.type "tuple"), none, (.seq [(.str (Str.ofString "buffer") 332), (.str (Str.ofString "place") 333), (.str (Str.ofString "codes") 334), (.str (Str.ofString "before_markers") 335)].toArray 0), [].toArray⟩
noncomputable def o116 (P : Params) : Obj := ⟨(.type "tuple"), none, (.seq [].toArray 0), [].toArray⟩
noncomputable def o117 (P : Params) : Obj := ⟨.none, none, (fZ (st 15) (Str.ofString "insert_at")), [].toArray⟩
noncomputable def o118 (P : Params) : Obj := ⟨(.type "code"), none, (.fields [(.str (Str.ofString "insert_at") 329), (.str (Str.ofString "insert_at") 330), (.str (Str.ofString "/claim/cut.py") 331), (.int 68 0), (.int 4 0), (.int 0 0), (.int 0 0), (.int 3 0), (.ref 113), (.bool true), (.int 181 0), (.ref 114), .none, (.ref 115), (.ref 116), (.ref 117), (.int 336 0), (.int 68 0), (.str (Str.ofString "/claim/cut.py") 337)].toArray), [].toArray⟩
noncomputable def o119 (P : Params) : Obj := ⟨(.type "function"), none, (fD (st 15) (Str.ofString "insert_at") (.ref 112) (.str (Str.ofString "emacs.editing") 227) (.ref 118)), [].toArray⟩
noncomputable def o120 (P : Params) : Obj := ⟨(.type "tuple"), none, (.seq [(.bool false)].toArray 0), [].toArray⟩
noncomputable def o121 (P : Params) : Obj := ⟨(.type "tuple"), none, (.seq [].toArray 0), [].toArray⟩
noncomputable def o122 (P : Params) : Obj := ⟨.none, none, (.fields [].toArray), [].toArray⟩
noncomputable def o123 (P : Params) : Obj := ⟨(.type "tuple"), none, (.seq [(.str (Str.ofString "buffer") 342), (.str (Str.ofString "codes") 343), (.str (Str.ofString "before_markers") 344)].toArray 0), [].toArray⟩
noncomputable def o124 (P : Params) : Obj := ⟨(.type "tuple"), none, (.seq [].toArray 0), [].toArray⟩
noncomputable def o125 (P : Params) : Obj := ⟨.none, none, (fZ (st 16) (Str.ofString "insert")), [].toArray⟩
noncomputable def o126 (P : Params) : Obj := ⟨(.type "code"), none, (.fields [(.str (Str.ofString "insert") 339), (.str (Str.ofString "insert") 340), (.str (Str.ofString "/claim/cut.py") 341), (.int 70 0), (.int 3 0), (.int 0 0), (.int 0 0), (.int 3 0), (.ref 121), (.bool true), (.int 181 0), (.ref 122), .none, (.ref 123), (.ref 124), (.ref 125), (.int 345 0), (.int 70 0), (.str (Str.ofString "/claim/cut.py") 346)].toArray), [].toArray⟩
noncomputable def o127 (P : Params) : Obj := ⟨(.type "function"), none, (fD (st 16) (Str.ofString "insert") (.ref 120) (.str (Str.ofString "emacs.editing") 227) (.ref 126)), [].toArray⟩
noncomputable def o128 (P : Params) : Obj := ⟨(.type "tuple"), none, (.seq [].toArray 0), [].toArray⟩
noncomputable def o129 (P : Params) : Obj := ⟨.none, none, (.fields [].toArray), [].toArray⟩
noncomputable def o130 (P : Params) : Obj := ⟨(.type "tuple"), none, (.seq [(.str (Str.ofString "buffer") 351), (.str (Str.ofString "start") 352), (.str (Str.ofString "end") 353), (.str (Str.ofString "low") 354), (.str (Str.ofString "high") 355), (.str (Str.ofString "gone") 356)].toArray 0), [].toArray⟩
noncomputable def o131 (P : Params) : Obj := ⟨(.type "tuple"), none, (.seq [].toArray 0), [].toArray⟩
noncomputable def o132 (P : Params) : Obj := ⟨.none, none, (fZ (st 17) (Str.ofString "delete")), [].toArray⟩
noncomputable def o133 (P : Params) : Obj := ⟨(.type "code"), none, (.fields [(.str (Str.ofString "delete") 348), (.str (Str.ofString "delete") 349), (.str (Str.ofString "/claim/cut.py") 350), (.int 72 0), (.int 3 0), (.int 0 0), (.int 0 0), (.int 3 0), (.ref 128), (.bool true), (.int 181 0), (.ref 129), .none, (.ref 130), (.ref 131), (.ref 132), (.int 357 0), (.int 72 0), (.str (Str.ofString "/claim/cut.py") 358)].toArray), [].toArray⟩
noncomputable def o134 (P : Params) : Obj := ⟨(.type "function"), none, (fD (st 17) (Str.ofString "delete") .none (.str (Str.ofString "emacs.editing") 227) (.ref 133)), [].toArray⟩
noncomputable def o135 (P : Params) : Obj := ⟨(.type "tuple"), none, (.seq [].toArray 0), [].toArray⟩
noncomputable def o136 (P : Params) : Obj := ⟨.none, none, (.fields [].toArray), [].toArray⟩
noncomputable def o137 (P : Params) : Obj := ⟨.none, none, (fZ (st 18) (Str.ofString "rows_moved")), [].toArray⟩
noncomputable def o138 (P : Params) : Obj := ⟨(.type "code"), none, (.fields [(.str (Str.ofString "rows_moved") 360), (.str (Str.ofString "rows_moved") 361), (.str (Str.ofString "/claim/cut.py") 362), (.int 83 0), (.int 4 0), (.int 0 0), (.int 0 0), (.int 3 0), (.ref 135), (.bool true), (.int 181 0), (.ref 136), .none, .none, .none, (.ref 137), (.int 363 0), (.int 83 0), (.str (Str.ofString "/claim/cut.py") 364)].toArray), [].toArray⟩
noncomputable def o139 (P : Params) : Obj := ⟨(.type "function"), none, (fD (st 18) (Str.ofString "rows_moved") .none (.str (Str.ofString "emacs.editing") 227) (.ref 138)), [].toArray⟩
noncomputable def o140 (P : Params) : Obj := ⟨(.type "tuple"), none, (.seq [.none].toArray 0), [].toArray⟩
noncomputable def o141 (P : Params) : Obj := ⟨(.type "tuple"), none, (.seq [].toArray 0), [].toArray⟩
noncomputable def o142 (P : Params) : Obj := ⟨.none, none, (.fields [].toArray), [].toArray⟩
noncomputable def o143 (P : Params) : Obj := ⟨(.type "tuple"), none, (.seq [(.str (Str.ofString "buffer") 369), (.str (Str.ofString "start") 370), (.str (Str.ofString "end") 371), (.str (Str.ofString "codes") 372), (.str (Str.ofString "rows") 373), (.str (Str.ofString "low") 374), (.str (Str.ofString "high") 375), (.str (Str.ofString "point") 376), (.str (Str.ofString "gone") 377)].toArray 0), [].toArray⟩
noncomputable def o144 (P : Params) : Obj := ⟨(.type "tuple"), none, (.seq [].toArray 0), [].toArray⟩
noncomputable def o145 (P : Params) : Obj := ⟨.none, none, (fZ (st 19) (Str.ofString "replace")), [].toArray⟩
noncomputable def o146 (P : Params) : Obj := ⟨(.type "code"), none, (.fields [(.str (Str.ofString "replace") 366), (.str (Str.ofString "replace") 367), (.str (Str.ofString "/claim/cut.py") 368), (.int 88 0), (.int 5 0), (.int 0 0), (.int 0 0), (.int 3 0), (.ref 141), (.bool true), (.int 181 0), (.ref 142), .none, (.ref 143), (.ref 144), (.ref 145), (.int 378 0), (.int 88 0), (.str (Str.ofString "/claim/cut.py") 379)].toArray), [].toArray⟩
noncomputable def o147 (P : Params) : Obj := ⟨(.type "function"), none, (fD (st 19) (Str.ofString "replace") (.ref 140) (.str (Str.ofString "emacs.editing") 227) (.ref 146)), [].toArray⟩
noncomputable def o148 (P : Params) : Obj := ⟨(.type "tuple"), none, (.seq [].toArray 0), [].toArray⟩
noncomputable def o149 (P : Params) : Obj := ⟨.none, none, (.fields [].toArray), [].toArray⟩
noncomputable def o150 (P : Params) : Obj := ⟨(.type "tuple"), none, (.seq [(.str (Str.ofString "buffer") 384), (.str (Str.ofString "place") 385), (.str (Str.ofString "code") 386)].toArray 0), [].toArray⟩
noncomputable def o151 (P : Params) : Obj := ⟨(.type "tuple"), none, (.seq [].toArray 0), [].toArray⟩
noncomputable def o152 (P : Params) : Obj := ⟨.none, none, (fZ (st 20) (Str.ofString "change_sign")), [].toArray⟩
noncomputable def o153 (P : Params) : Obj := ⟨(.type "code"), none, (.fields [(.str (Str.ofString "change_sign") 381), (.str (Str.ofString "change_sign") 382), (.str (Str.ofString "/claim/cut.py") 383), (.int 110 0), (.int 3 0), (.int 0 0), (.int 0 0), (.int 3 0), (.ref 148), (.bool true), (.int 181 0), (.ref 149), .none, (.ref 150), (.ref 151), (.ref 152), (.int 387 0), (.int 110 0), (.str (Str.ofString "/claim/cut.py") 388)].toArray), [].toArray⟩
noncomputable def o154 (P : Params) : Obj := ⟨(.type "function"), none, (fD (st 20) (Str.ofString "change_sign") .none (.str (Str.ofString "emacs.editing") 227) (.ref 153)), [].toArray⟩
noncomputable def o155 (P : Params) : Obj := ⟨(.type "tuple"), none, (.seq [].toArray 0), [].toArray⟩
noncomputable def o156 (P : Params) : Obj := ⟨.none, none, (.fields [].toArray), [].toArray⟩
noncomputable def o157 (P : Params) : Obj := ⟨(.type "tuple"), none, (.seq [(.str (Str.ofString "buffer") 393), (.str (Str.ofString "start") 394), (.str (Str.ofString "end") 395), (.str (Str.ofString "one") 396), (.str (Str.ofString "other") 397), (.str (Str.ofString "low") 398), (.str (Str.ofString "high") 399), (.str (Str.ofString "many") 400), (.str (Str.ofString "place") 401)].toArray 0), [].toArray⟩
noncomputable def o158 (P : Params) : Obj := ⟨(.type "tuple"), none, (.seq [].toArray 0), [].toArray⟩
noncomputable def o159 (P : Params) : Obj := ⟨.none, none, (fZ (st 21) (Str.ofString "subst_codes")), [].toArray⟩
noncomputable def o160 (P : Params) : Obj := ⟨(.type "code"), none, (.fields [(.str (Str.ofString "subst_codes") 390), (.str (Str.ofString "subst_codes") 391), (.str (Str.ofString "/claim/cut.py") 392), (.int 119 0), (.int 5 0), (.int 0 0), (.int 0 0), (.int 3 0), (.ref 155), (.bool true), (.int 181 0), (.ref 156), .none, (.ref 157), (.ref 158), (.ref 159), (.int 402 0), (.int 119 0), (.str (Str.ofString "/claim/cut.py") 403)].toArray), [].toArray⟩
noncomputable def o161 (P : Params) : Obj := ⟨(.type "function"), none, (fD (st 21) (Str.ofString "subst_codes") .none (.str (Str.ofString "emacs.editing") 227) (.ref 160)), [].toArray⟩
noncomputable def o162 (P : Params) : Obj := ⟨(.type "tuple"), none, (.seq [].toArray 0), [].toArray⟩
noncomputable def o163 (P : Params) : Obj := ⟨.none, none, (.fields [].toArray), [].toArray⟩
noncomputable def o164 (P : Params) : Obj := ⟨(.type "tuple"), none, (.seq [(.str (Str.ofString "buffer") 408), (.str (Str.ofString "first") 409), (.str (Str.ofString "second") 410), (.str (Str.ofString "one") 411), (.str (Str.ofString "other") 412), (.str (Str.ofString "head") 413), (.str (Str.ofString "middle") 414), (.str (Str.ofString "tail") 415), (.str (Str.ofString "rows") 416)].toArray 0), [].toArray⟩
noncomputable def o165 (P : Params) : Obj := ⟨(.type "tuple"), none, (.seq [].toArray 0), [].toArray⟩
noncomputable def o166 (P : Params) : Obj := ⟨.none, none, (fZ (st 22) (Str.ofString "transpose_regions")), [].toArray⟩
noncomputable def o167 (P : Params) : Obj := ⟨(.type "code"), none, (.fields [(.str (Str.ofString "transpose_regions") 405), (.str (Str.ofString "transpose_regions") 406), (.str (Str.ofString "/claim/cut.py") 407), (.int 127 0), (.int 3 0), (.int 0 0), (.int 0 0), (.int 3 0), (.ref 162), (.bool true), (.int 181 0), (.ref 163), .none, (.ref 164), (.ref 165), (.ref 166), (.int 417 0), (.int 127 0), (.str (Str.ofString "/claim/cut.py") 418)].toArray), [].toArray⟩
noncomputable def o168 (P : Params) : Obj := ⟨(.type "function"), none, (fD (st 22) (Str.ofString "transpose_regions") .none (.str (Str.ofString "emacs.editing") 227) (.ref 167)), [].toArray⟩
noncomputable def t1 (P : Params) : BT := (N (PySem.W.boot_o_0 P) (N (PySem.W.boot_o_1 P) (N (o3_1 P) (N (PySem.W.boot_o_7 P) (N (o15 P) (N (o31 P) (N (o63 P) (N (o127 P) Z Z) Z) (N (o95 P) (N (o159 P) Z Z) Z)) (N (o47 P) (N (o79 P) (N (o143 P) Z Z) Z) (N (o111 P) Z Z))) (N (o23 P) (N (o39 P) (N (o71 P) (N (o135 P) Z Z) Z) (N (o103 P) (N (o167 P) Z Z) Z)) (N (o55 P) (N (o87 P) (N (o151 P) Z Z) Z) (N (o119 P) Z Z)))) (N (o11 P) (N (o19 P) (N (o35 P) (N (o67 P) (N (o131 P) Z Z) Z) (N (o99 P) (N (o163 P) Z Z) Z)) (N (o51 P) (N (o83 P) (N (o147 P) Z Z) Z) (N (o115 P) Z Z))) (N (o27 P) (N (o43 P) (N (o75 P) (N (o139 P) Z Z) Z) (N (o107 P) Z Z)) (N (o59 P) (N (o91 P) (N (o155 P) Z Z) Z) (N (o123 P) Z Z))))) (N (PySem.W.boot_o_5 P) (N (PySem.W.boot_o_9 P) (N (o17 P) (N (o33 P) (N (o65 P) (N (o129 P) Z Z) Z) (N (o97 P) (N (o161 P) Z Z) Z)) (N (o49 P) (N (o81 P) (N (o145 P) Z Z) Z) (N (o113 P) Z Z))) (N (o25 P) (N (o41 P) (N (o73 P) (N (o137 P) Z Z) Z) (N (o105 P) Z Z)) (N (o57 P) (N (o89 P) (N (o153 P) Z Z) Z) (N (o121 P) Z Z)))) (N (o13 P) (N (o21 P) (N (o37 P) (N (o69 P) (N (o133 P) Z Z) Z) (N (o101 P) (N (o165 P) Z Z) Z)) (N (o53 P) (N (o85 P) (N (o149 P) Z Z) Z) (N (o117 P) Z Z))) (N (o29 P) (N (o45 P) (N (o77 P) (N (o141 P) Z Z) Z) (N (o109 P) Z Z)) (N (o61 P) (N (o93 P) (N (o157 P) Z Z) Z) (N (o125 P) Z Z)))))) (N (o2_1 P) (N (PySem.W.boot_o_4 P) (N (PySem.W.boot_o_8 P) (N (o16 P) (N (o32 P) (N (o64 P) (N (o128 P) Z Z) Z) (N (o96 P) (N (o160 P) Z Z) Z)) (N (o48 P) (N (o80 P) (N (o144 P) Z Z) Z) (N (o112 P) Z Z))) (N (o24 P) (N (o40 P) (N (o72 P) (N (o136 P) Z Z) Z) (N (o104 P) (N (o168 P) Z Z) Z)) (N (o56 P) (N (o88 P) (N (o152 P) Z Z) Z) (N (o120 P) Z Z)))) (N (o12_1 P) (N (o20 P) (N (o36 P) (N (o68 P) (N (o132 P) Z Z) Z) (N (o100 P) (N (o164 P) Z Z) Z)) (N (o52 P) (N (o84 P) (N (o148 P) Z Z) Z) (N (o116 P) Z Z))) (N (o28 P) (N (o44 P) (N (o76 P) (N (o140 P) Z Z) Z) (N (o108 P) Z Z)) (N (o60 P) (N (o92 P) (N (o156 P) Z Z) Z) (N (o124 P) Z Z))))) (N (PySem.W.boot_o_6 P) (N (PySem.W.boot_o_10 P) (N (o18 P) (N (o34 P) (N (o66 P) (N (o130 P) Z Z) Z) (N (o98 P) (N (o162 P) Z Z) Z)) (N (o50 P) (N (o82 P) (N (o146 P) Z Z) Z) (N (o114 P) Z Z))) (N (o26 P) (N (o42 P) (N (o74 P) (N (o138 P) Z Z) Z) (N (o106 P) Z Z)) (N (o58 P) (N (o90 P) (N (o154 P) Z Z) Z) (N (o122 P) Z Z)))) (N (o14 P) (N (o22 P) (N (o38 P) (N (o70 P) (N (o134 P) Z Z) Z) (N (o102 P) (N (o166 P) Z Z) Z)) (N (o54 P) (N (o86 P) (N (o150 P) Z Z) Z) (N (o118 P) Z Z))) (N (o30 P) (N (o46 P) (N (o78 P) (N (o142 P) Z Z) Z) (N (o110 P) Z Z)) (N (o62 P) (N (o94 P) (N (o158 P) Z Z) Z) (N (o126 P) Z Z)))))))
-- boundary 1: upto 23, objs 169, toks 420, pos ⟨127, 0, 142, 65⟩, steps 876
noncomputable def o3_2 (P : Params) : Obj := ⟨(.type "dict"), none, (.dict [D P (Str.ofString "__name__") 165 (.str (Str.ofString "emacs.gap") 420), D P (Str.ofString "__doc__") 166 .none, D P (Str.ofString "__package__") 167 .none, D P (Str.ofString "__loader__") 168 (.builtin "__main__.__loader__#opaque"), D P (Str.ofString "__spec__") 169 .none, D P (Str.ofString "__annotations__") 170 (.ref 6), D P (Str.ofString "__builtins__") 171 (.ref 4), D P (Str.ofString "__file__") 173 (.str (Str.ofString "/claim/cut.py") 172), D P (Str.ofString "__cached__") 174 .none, D P (Str.ofString "_wall") 193 (.ref 21), D P (Str.ofString "LispSignal") 226 (.ref 38), D P (Str.ofString "LONGEST") 232 (.int 4194304 231), D P (Str.ofString "need_writable") 239 (.ref 48), D P (Str.ofString "need_room") 247 (.ref 55), D P (Str.ofString "reached") 258 (.ref 62), D P (Str.ofString "tell_ahead") 268 (.ref 69), D P (Str.ofString "tell_behind") 279 (.ref 76), D P (Str.ofString "text_out") 289 (.ref 83), D P (Str.ofString "text_in") 298 (.ref 90), D P (Str.ofString "hung_out") 307 (.ref 97), D P (Str.ofString "hung_in") 317 (.ref 104), D P (Str.ofString "put_in") 328 (.ref 111), D P (Str.ofString "insert_at") 338 (.ref 119), D P (Str.ofString "insert") 347 (.ref 127), D P (Str.ofString "delete") 359 (.ref 134), D P (Str.ofString "rows_moved") 365 (.ref 139), D P (Str.ofString "replace") 380 (.ref 147), D P (Str.ofString "change_sign") 389 (.ref 154), D P (Str.ofString "subst_codes") 404 (.ref 161), D P (Str.ofString "transpose_regions") 419 (.ref 168), D P (Str.ofString "GapText") 539 (.ref 255)].toArray 31), [].toArray⟩
noncomputable def o12_2 (P : Params) : Obj := ⟨.none, none, (.fields [(.int 1 0), (.int 0 0), (.ref 20), (.int 5 0), (.int 0 0), (.ref 27), (.int 12 0), (.int 0 0), (.ref 47), (.int 15 0), (.int 0 0), (.ref 54), (.int 18 0), (.int 0 0), (.ref 61), (.int 23 0), (.int 0 0), (.ref 68), (.int 26 0), (.int 0 0), (.ref 75), (.int 30 0), (.int 0 0), (.ref 82), (.int 38 0), (.int 0 0), (.ref 89), (.int 45 0), (.int 0 0), (.ref 96), (.int 50 0), (.int 0 0), (.ref 103), (.int 55 0), (.int 0 0), (.ref 110), (.int 68 0), (.int 0 0), (.ref 118), (.int 70 0), (.int 0 0), (.ref 126), (.int 72 0), (.int 0 0), (.ref 133), (.int 83 0), (.int 0 0), (.ref 138), (.int 88 0), (.int 0 0), (.ref 146), (.int 110 0), (.int 0 0), (.ref 153), (.int 119 0), (.int 0 0), (.ref 160), (.int 127 0), (.int 0 0), (.ref 167), (.int 144 0), (.int 0 0), (.ref 174)].toArray), [].toArray⟩
noncomputable def o169 (P : Params) : Obj := ⟨(.type "tuple"), none, (.seq [].toArray 0), [].toArray⟩
noncomputable def o170 (P : Params) : Obj := ⟨(.type "builtin_function_or_method"), none, (.fields [(.builtin "type.__prepare__"), (.type "type")].toArray), [].toArray⟩
noncomputable def o171 (P : Params) : Obj := ⟨(.type "dict"), none, (.dict [D P (Str.ofString "__module__") 429 (.str (Str.ofString "emacs.gap") 420), D P (Str.ofString "__qualname__") 431 (.str (Str.ofString "GapText") 430), D P (Str.ofString "__firstlineno__") 433 (.int 144 432), D P (Str.ofString "__init__") 442 (.ref 182), D P (Str.ofString "size") 449 (.ref 189), D P (Str.ofString "code") 457 (.ref 196), D P (Str.ofString "codes") 467 (.ref 203), D P (Str.ofString "move_gap") 476 (.ref 210), D P (Str.ofString "widen_gap") 485 (.ref 217), D P (Str.ofString "insert") 494 (.ref 224), D P (Str.ofString "delete") 504 (.ref 231), D P (Str.ofString "put") 513 (.ref 238), D P (Str.ofString "narrow_gap") 520 (.ref 245), D P (Str.ofString "is_whole") 527 (.ref 252), D P (Str.ofString "__static_attributes__") 532 (.ref 253)].toArray 15), [].toArray⟩
noncomputable def o172 (P : Params) : Obj := ⟨(.type "tuple"), none, (.seq [].toArray 0), [].toArray⟩
noncomputable def o173 (P : Params) : Obj := ⟨.none, none, (.fields [(.int 146 0), (.int 4 0), (.ref 181), (.int 152 0), (.int 4 0), (.ref 188), (.int 155 0), (.int 4 0), (.ref 195), (.int 160 0), (.int 4 0), (.ref 202), (.int 168 0), (.int 4 0), (.ref 209), (.int 179 0), (.int 4 0), (.ref 216), (.int 185 0), (.int 4 0), (.ref 223), (.int 191 0), (.int 4 0), (.ref 230), (.int 201 0), (.int 4 0), (.ref 237), (.int 204 0), (.int 4 0), (.ref 244), (.int 207 0), (.int 4 0), (.ref 251)].toArray), [].toArray⟩
noncomputable def o174 (P : Params) : Obj := ⟨(.type "code"), none, (.fields [(.str (Str.ofString "GapText") 424), (.str (Str.ofString "GapText") 425), (.str (Str.ofString "/claim/cut.py") 426), (.int 144 0), (.int 0 0), (.int 0 0), (.int 0 0), (.int 0 0), (.ref 172), (.bool false), (.int 181 0), (.ref 173), .none, .none, .none, .none, (.int 427 0), (.int 144 0), (.str (Str.ofString "/claim/cut.py") 428)].toArray), [].toArray⟩
noncomputable def o175 (P : Params) : Obj := ⟨(.type "frame"), none, .plain, [(some (.ref 174)), (some (.ref 3)), (some (.ref 171)), none, (some (.str (Str.ofString "emacs.gap") 420)), none, (some (.ref 0))].toArray⟩
noncomputable def o176 (P : Params) : Obj := ⟨(.type "tuple"), none, (.seq [].toArray 0), [].toArray⟩
noncomputable def o177 (P : Params) : Obj := ⟨.none, none, (.fields [].toArray), [].toArray⟩
noncomputable def o178 (P : Params) : Obj := ⟨(.type "tuple"), none, (.seq [(.str (Str.ofString "self") 437), (.str (Str.ofString "codes") 438), (.str (Str.ofString "room") 439)].toArray 0), [].toArray⟩
noncomputable def o179 (P : Params) : Obj := ⟨(.type "tuple"), none, (.seq [].toArray 0), [].toArray⟩
noncomputable def o180 (P : Params) : Obj := ⟨.none, none, (fZ (ms 24 0) (Str.ofString "GapText.__init__")), [].toArray⟩
noncomputable def o181 (P : Params) : Obj := ⟨(.type "code"), none, (.fields [(.str (Str.ofString "__init__") 434), (.str (Str.ofString "GapText.__init__") 435), (.str (Str.ofString "/claim/cut.py") 436), (.int 146 0), (.int 3 0), (.int 0 0), (.int 0 0), (.int 3 0), (.ref 176), (.bool true), (.int 181 0), (.ref 177), .none, (.ref 178), (.ref 179), (.ref 180), (.int 440 0), (.int 146 0), (.str (Str.ofString "/claim/cut.py") 441)].toArray), [].toArray⟩
noncomputable def o182 (P : Params) : Obj := ⟨(.type "function"), none, (fD (ms 24 0) (Str.ofString "GapText.__init__") .none (.str (Str.ofString "emacs.gap") 420) (.ref 181)), [].toArray⟩
noncomputable def o183 (P : Params) : Obj := ⟨(.type "tuple"), none, (.seq [].toArray 0), [].toArray⟩
noncomputable def o184 (P : Params) : Obj := ⟨.none, none, (.fields [].toArray), [].toArray⟩
noncomputable def o185 (P : Params) : Obj := ⟨(.type "tuple"), none, (.seq [(.str (Str.ofString "self") 446)].toArray 0), [].toArray⟩
noncomputable def o186 (P : Params) : Obj := ⟨(.type "tuple"), none, (.seq [].toArray 0), [].toArray⟩
noncomputable def o187 (P : Params) : Obj := ⟨.none, none, (fZ (ms 24 1) (Str.ofString "GapText.size")), [].toArray⟩
noncomputable def o188 (P : Params) : Obj := ⟨(.type "code"), none, (.fields [(.str (Str.ofString "size") 443), (.str (Str.ofString "GapText.size") 444), (.str (Str.ofString "/claim/cut.py") 445), (.int 152 0), (.int 1 0), (.int 0 0), (.int 0 0), (.int 3 0), (.ref 183), (.bool true), (.int 181 0), (.ref 184), .none, (.ref 185), (.ref 186), (.ref 187), (.int 447 0), (.int 152 0), (.str (Str.ofString "/claim/cut.py") 448)].toArray), [].toArray⟩
noncomputable def o189 (P : Params) : Obj := ⟨(.type "function"), none, (fD (ms 24 1) (Str.ofString "GapText.size") .none (.str (Str.ofString "emacs.gap") 420) (.ref 188)), [].toArray⟩
noncomputable def o190 (P : Params) : Obj := ⟨(.type "tuple"), none, (.seq [].toArray 0), [].toArray⟩
noncomputable def o191 (P : Params) : Obj := ⟨.none, none, (.fields [].toArray), [].toArray⟩
noncomputable def o192 (P : Params) : Obj := ⟨(.type "tuple"), none, (.seq [(.str (Str.ofString "self") 453), (.str (Str.ofString "at") 454)].toArray 0), [].toArray⟩
noncomputable def o193 (P : Params) : Obj := ⟨(.type "tuple"), none, (.seq [].toArray 0), [].toArray⟩
noncomputable def o194 (P : Params) : Obj := ⟨.none, none, (fZ (ms 24 2) (Str.ofString "GapText.code")), [].toArray⟩
noncomputable def o195 (P : Params) : Obj := ⟨(.type "code"), none, (.fields [(.str (Str.ofString "code") 450), (.str (Str.ofString "GapText.code") 451), (.str (Str.ofString "/claim/cut.py") 452), (.int 155 0), (.int 2 0), (.int 0 0), (.int 0 0), (.int 3 0), (.ref 190), (.bool true), (.int 181 0), (.ref 191), .none, (.ref 192), (.ref 193), (.ref 194), (.int 455 0), (.int 155 0), (.str (Str.ofString "/claim/cut.py") 456)].toArray), [].toArray⟩
noncomputable def o196 (P : Params) : Obj := ⟨(.type "function"), none, (fD (ms 24 2) (Str.ofString "GapText.code") .none (.str (Str.ofString "emacs.gap") 420) (.ref 195)), [].toArray⟩
noncomputable def o197 (P : Params) : Obj := ⟨(.type "tuple"), none, (.seq [].toArray 0), [].toArray⟩
noncomputable def o198 (P : Params) : Obj := ⟨.none, none, (.fields [].toArray), [].toArray⟩
noncomputable def o199 (P : Params) : Obj := ⟨(.type "tuple"), none, (.seq [(.str (Str.ofString "self") 461), (.str (Str.ofString "start") 462), (.str (Str.ofString "end") 463), (.str (Str.ofString "shift") 464)].toArray 0), [].toArray⟩
noncomputable def o200 (P : Params) : Obj := ⟨(.type "tuple"), none, (.seq [].toArray 0), [].toArray⟩
noncomputable def o201 (P : Params) : Obj := ⟨.none, none, (fZ (ms 24 3) (Str.ofString "GapText.codes")), [].toArray⟩
noncomputable def o202 (P : Params) : Obj := ⟨(.type "code"), none, (.fields [(.str (Str.ofString "codes") 458), (.str (Str.ofString "GapText.codes") 459), (.str (Str.ofString "/claim/cut.py") 460), (.int 160 0), (.int 3 0), (.int 0 0), (.int 0 0), (.int 3 0), (.ref 197), (.bool true), (.int 181 0), (.ref 198), .none, (.ref 199), (.ref 200), (.ref 201), (.int 465 0), (.int 160 0), (.str (Str.ofString "/claim/cut.py") 466)].toArray), [].toArray⟩
noncomputable def o203 (P : Params) : Obj := ⟨(.type "function"), none, (fD (ms 24 3) (Str.ofString "GapText.codes") .none (.str (Str.ofString "emacs.gap") 420) (.ref 202)), [].toArray⟩
noncomputable def o204 (P : Params) : Obj := ⟨(.type "tuple"), none, (.seq [].toArray 0), [].toArray⟩
noncomputable def o205 (P : Params) : Obj := ⟨.none, none, (.fields [].toArray), [].toArray⟩
noncomputable def o206 (P : Params) : Obj := ⟨(.type "tuple"), none, (.seq [(.str (Str.ofString "self") 471), (.str (Str.ofString "at") 472), (.str (Str.ofString "moved") 473)].toArray 0), [].toArray⟩
noncomputable def o207 (P : Params) : Obj := ⟨(.type "tuple"), none, (.seq [].toArray 0), [].toArray⟩
noncomputable def o208 (P : Params) : Obj := ⟨.none, none, (fZ (ms 24 4) (Str.ofString "GapText.move_gap")), [].toArray⟩
noncomputable def o209 (P : Params) : Obj := ⟨(.type "code"), none, (.fields [(.str (Str.ofString "move_gap") 468), (.str (Str.ofString "GapText.move_gap") 469), (.str (Str.ofString "/claim/cut.py") 470), (.int 168 0), (.int 2 0), (.int 0 0), (.int 0 0), (.int 3 0), (.ref 204), (.bool true), (.int 181 0), (.ref 205), .none, (.ref 206), (.ref 207), (.ref 208), (.int 474 0), (.int 168 0), (.str (Str.ofString "/claim/cut.py") 475)].toArray), [].toArray⟩
noncomputable def o210 (P : Params) : Obj := ⟨(.type "function"), none, (fD (ms 24 4) (Str.ofString "GapText.move_gap") .none (.str (Str.ofString "emacs.gap") 420) (.ref 209)), [].toArray⟩
noncomputable def o211 (P : Params) : Obj := ⟨(.type "tuple"), none, (.seq [].toArray 0), [].toArray⟩
noncomputable def o212 (P : Params) : Obj := ⟨.none, none, (.fields [].toArray), [].toArray⟩
noncomputable def o213 (P : Params) : Obj := ⟨(.type "tuple"), none, (.seq [(.str (Str.ofString "self") 480), (.str (Str.ofString "wanted") 481), (.str (Str.ofString "lack") 482)].toArray 0), [].toArray⟩
noncomputable def o214 (P : Params) : Obj := ⟨(.type "tuple"), none, (.seq [].toArray 0), [].toArray⟩
noncomputable def o215 (P : Params) : Obj := ⟨.none, none, (fZ (ms 24 5) (Str.ofString "GapText.widen_gap")), [].toArray⟩
noncomputable def o216 (P : Params) : Obj := ⟨(.type "code"), none, (.fields [(.str (Str.ofString "widen_gap") 477), (.str (Str.ofString "GapText.widen_gap") 478), (.str (Str.ofString "/claim/cut.py") 479), (.int 179 0), (.int 2 0), (.int 0 0), (.int 0 0), (.int 3 0), (.ref 211), (.bool true), (.int 181 0), (.ref 212), .none, (.ref 213), (.ref 214), (.ref 215), (.int 483 0), (.int 179 0), (.str (Str.ofString "/claim/cut.py") 484)].toArray), [].toArray⟩
noncomputable def o217 (P : Params) : Obj := ⟨(.type "function"), none, (fD (ms 24 5) (Str.ofString "GapText.widen_gap") .none (.str (Str.ofString "emacs.gap") 420) (.ref 216)), [].toArray⟩
noncomputable def o218 (P : Params) : Obj := ⟨(.type "tuple"), none, (.seq [].toArray 0), [].toArray⟩
noncomputable def o219 (P : Params) : Obj := ⟨.none, none, (.fields [].toArray), [].toArray⟩
noncomputable def o220 (P : Params) : Obj := ⟨(.type "tuple"), none, (.seq [(.str (Str.ofString "self") 489), (.str (Str.ofString "at") 490), (.str (Str.ofString "codes") 491)].toArray 0), [].toArray⟩
noncomputable def o221 (P : Params) : Obj := ⟨(.type "tuple"), none, (.seq [].toArray 0), [].toArray⟩
noncomputable def o222 (P : Params) : Obj := ⟨.none, none, (fZ (ms 24 6) (Str.ofString "GapText.insert")), [].toArray⟩
noncomputable def o223 (P : Params) : Obj := ⟨(.type "code"), none, (.fields [(.str (Str.ofString "insert") 486), (.str (Str.ofString "GapText.insert") 487), (.str (Str.ofString "/claim/cut.py") 488), (.int 185 0), (.int 3 0), (.int 0 0), (.int 0 0), (.int 3 0), (.ref 218), (.bool true), (.int 181 0), (.ref 219), .none, (.ref 220), (.ref 221), (.ref 222), (.int 492 0), (.int 185 0), (.str (Str.ofString "/claim/cut.py") 493)].toArray), [].toArray⟩
noncomputable def o224 (P : Params) : Obj := ⟨(.type "function"), none, (fD (ms 24 6) (Str.ofString "GapText.insert") .none (.str (Str.ofString "emacs.gap") 420) (.ref 223)), [].toArray⟩
noncomputable def o225 (P : Params) : Obj := ⟨(.type "tuple"), none, (.seq [].toArray 0), [].toArray⟩
noncomputable def o226 (P : Params) : Obj := ⟨.none, none, (.fields [].toArray), [].toArray⟩
noncomputable def o227 (P : Params) : Obj := ⟨(.type "tuple"), none, (.seq [(.str (Str.ofString "self") 498), (.str (Str.ofString "start") 499), (.str (Str.ofString "end") 500), (.str (Str.ofString "gone") 501)].toArray 0), [].toArray⟩
noncomputable def o228 (P : Params) : Obj := ⟨(.type "tuple"), none, (.seq [].toArray 0), [].toArray⟩
noncomputable def o229 (P : Params) : Obj := ⟨.none, none, (fZ (ms 24 7) (Str.ofString "GapText.delete")), [].toArray⟩
noncomputable def o230 (P : Params) : Obj := ⟨(.type "code"), none, (.fields [(.str (Str.ofString "delete") 495), (.str (Str.ofString "GapText.delete") 496), (.str (Str.ofString "/claim/cut.py") 497), (.int 191 0), (.int 3 0), (.int 0 0), (.int 0 0), (.int 3 0), (.ref 225), (.bool true), (.int 181 0), (.ref 226), .none, (.ref 227), (.ref 228), (.ref 229), (.int 502 0), (.int 191 0), (.str (Str.ofString "/claim/cut.py") 503)].toArray), [].toArray⟩
noncomputable def o231 (P : Params) : Obj := ⟨(.type "function"), none, (fD (ms 24 7) (Str.ofString "GapText.delete") .none (.str (Str.ofString "emacs.gap") 420) (.ref 230)), [].toArray⟩
noncomputable def o232 (P : Params) : Obj := ⟨(.type "tuple"), none, (.seq [].toArray 0), [].toArray⟩
noncomputable def o233 (P : Params) : Obj := ⟨.none, none, (.fields [].toArray), [].toArray⟩
noncomputable def o234 (P : Params) : Obj := ⟨(.type "tuple"), none, (.seq [(.str (Str.ofString "self") 508), (.str (Str.ofString "at") 509), (.str (Str.ofString "code") 510)].toArray 0), [].toArray⟩
noncomputable def o235 (P : Params) : Obj := ⟨(.type "tuple"), none, (.seq [].toArray 0), [].toArray⟩
noncomputable def o236 (P : Params) : Obj := ⟨.none, none, (fZ (ms 24 8) (Str.ofString "GapText.put")), [].toArray⟩
noncomputable def o237 (P : Params) : Obj := ⟨(.type "code"), none, (.fields [(.str (Str.ofString "put") 505), (.str (Str.ofString "GapText.put") 506), (.str (Str.ofString "/claim/cut.py") 507), (.int 201 0), (.int 3 0), (.int 0 0), (.int 0 0), (.int 3 0), (.ref 232), (.bool true), (.int 181 0), (.ref 233), .none, (.ref 234), (.ref 235), (.ref 236), (.int 511 0), (.int 201 0), (.str (Str.ofString "/claim/cut.py") 512)].toArray), [].toArray⟩
noncomputable def o238 (P : Params) : Obj := ⟨(.type "function"), none, (fD (ms 24 8) (Str.ofString "GapText.put") .none (.str (Str.ofString "emacs.gap") 420) (.ref 237)), [].toArray⟩
noncomputable def o239 (P : Params) : Obj := ⟨(.type "tuple"), none, (.seq [].toArray 0), [].toArray⟩
noncomputable def o240 (P : Params) : Obj := ⟨.none, none, (.fields [].toArray), [].toArray⟩
noncomputable def o241 (P : Params) : Obj := ⟨(.type "tuple"), none, (.seq [(.str (Str.ofString "self") 517)].toArray 0), [].toArray⟩
noncomputable def o242 (P : Params) : Obj := ⟨(.type "tuple"), none, (.seq [].toArray 0), [].toArray⟩
noncomputable def o243 (P : Params) : Obj := ⟨.none, none, (fZ (ms 24 9) (Str.ofString "GapText.narrow_gap")), [].toArray⟩
noncomputable def o244 (P : Params) : Obj := ⟨(.type "code"), none, (.fields [(.str (Str.ofString "narrow_gap") 514), (.str (Str.ofString "GapText.narrow_gap") 515), (.str (Str.ofString "/claim/cut.py") 516), (.int 204 0), (.int 1 0), (.int 0 0), (.int 0 0), (.int 3 0), (.ref 239), (.bool true), (.int 181 0), (.ref 240), .none, (.ref 241), (.ref 242), (.ref 243), (.int 518 0), (.int 204 0), (.str (Str.ofString "/claim/cut.py") 519)].toArray), [].toArray⟩
noncomputable def o245 (P : Params) : Obj := ⟨(.type "function"), none, (fD (ms 24 9) (Str.ofString "GapText.narrow_gap") .none (.str (Str.ofString "emacs.gap") 420) (.ref 244)), [].toArray⟩
noncomputable def o246 (P : Params) : Obj := ⟨(.type "tuple"), none, (.seq [].toArray 0), [].toArray⟩
noncomputable def o247 (P : Params) : Obj := ⟨.none, none, (.fields [].toArray), [].toArray⟩
noncomputable def o248 (P : Params) : Obj := ⟨(.type "tuple"), none, (.seq [(.str (Str.ofString "self") 524)].toArray 0), [].toArray⟩
noncomputable def o249 (P : Params) : Obj := ⟨(.type "tuple"), none, (.seq [].toArray 0), [].toArray⟩
noncomputable def o250 (P : Params) : Obj := ⟨.none, none, (fZ (ms 24 10) (Str.ofString "GapText.is_whole")), [].toArray⟩
noncomputable def o251 (P : Params) : Obj := ⟨(.type "code"), none, (.fields [(.str (Str.ofString "is_whole") 521), (.str (Str.ofString "GapText.is_whole") 522), (.str (Str.ofString "/claim/cut.py") 523), (.int 207 0), (.int 1 0), (.int 0 0), (.int 0 0), (.int 3 0), (.ref 246), (.bool true), (.int 181 0), (.ref 247), .none, (.ref 248), (.ref 249), (.ref 250), (.int 525 0), (.int 207 0), (.str (Str.ofString "/claim/cut.py") 526)].toArray), [].toArray⟩
noncomputable def o252 (P : Params) : Obj := ⟨(.type "function"), none, (fD (ms 24 10) (Str.ofString "GapText.is_whole") .none (.str (Str.ofString "emacs.gap") 420) (.ref 251)), [].toArray⟩
noncomputable def o253 (P : Params) : Obj := ⟨(.type "tuple"), none, (.seq [(.str (Str.ofString "cells") 528), (.str (Str.ofString "gap_end") 529), (.str (Str.ofString "gap_start") 530), (.str (Str.ofString "room") 531)].toArray 0), [].toArray⟩
noncomputable def o254 (P : Params) : Obj := ⟨(.type "dict"), none, (.dict [D P (Str.ofString "__module__") 429 (.str (Str.ofString "emacs.gap") 420), D P (Str.ofString "__firstlineno__") 433 (.int 144 432), D P (Str.ofString "__init__") 442 (.ref 182), D P (Str.ofString "size") 449 (.ref 189), D P (Str.ofString "code") 457 (.ref 196), D P (Str.ofString "codes") 467 (.ref 203), D P (Str.ofString "move_gap") 476 (.ref 210), D P (Str.ofString "widen_gap") 485 (.ref 217), D P (Str.ofString "insert") 494 (.ref 224), D P (Str.ofString "delete") 504 (.ref 231), D P (Str.ofString "put") 513 (.ref 238), D P (Str.ofString "narrow_gap") 520 (.ref 245), D P (Str.ofString "is_whole") 527 (.ref 252), D P (Str.ofString "__static_attributes__") 532 (.ref 253), D P (Str.ofString "__dict__") 534 (.ref 256), D P (Str.ofString "__weakref__") 536 (.ref 257), D P (Str.ofString "__doc__") 537 .none].toArray 4), [].toArray⟩
noncomputable def o255 (P : Params) : Obj := ⟨(.type "type"), none, (cD (Str.ofString "GapText") [(.type "object")] [(.ref 255), (.type "object")] 254 (Str.ofString "GapText") []), [none, none, (some (.str (Str.ofString "GapText") 422)), (some (.str (Str.ofString "GapText") 430)), (some (.builtin "object.__new__")), (some (.bool true))].toArray⟩
noncomputable def o256 (P : Params) : Obj := ⟨(.type "getset_descriptor"), none, (.fields [(.str (Str.ofString "__dict__") 533), (.ref 255), (.builtin "function.__dict__"), (.builtin "function.__dict__#set")].toArray), [].toArray⟩
noncomputable def o257 (P : Params) : Obj := ⟨(.type "getset_descriptor"), none, (.fields [(.str (Str.ofString "__weakref__") 535), (.ref 255), (.builtin "ExceptionGroup.__weakref__"), .none].toArray), [].toArray⟩
noncomputable def o258 (P : Params) : Obj := ⟨(.type "super"), none, (.fields [(.ref 255), (.ref 255), (.ref 255)].toArray), [].toArray⟩
noncomputable def o259 (P : Params) : Obj := ⟨(.type "builtin_function_or_method"), none, (.fields [(.builtin "object.__init_subclass__"), (.ref 255)].toArray), [].toArray⟩
noncomputable def t2 (P : Params) : BT := (N (PySem.W.boot_o_0 P) (N (PySem.W.boot_o_1 P) (N (o3_2 P) (N (PySem.W.boot_o_7 P) (N (o15 P) (N (o31 P) (N (o63 P) (N (o127 P) (N (o255 P) Z Z) Z) (N (o191 P) Z Z)) (N (o95 P) (N (o159 P) Z Z) (N (o223 P) Z Z))) (N (o47 P) (N (o79 P) (N (o143 P) Z Z) (N (o207 P) Z Z)) (N (o111 P) (N (o175 P) Z Z) (N (o239 P) Z Z)))) (N (o23 P) (N (o39 P) (N (o71 P) (N (o135 P) Z Z) (N (o199 P) Z Z)) (N (o103 P) (N (o167 P) Z Z) (N (o231 P) Z Z))) (N (o55 P) (N (o87 P) (N (o151 P) Z Z) (N (o215 P) Z Z)) (N (o119 P) (N (o183 P) Z Z) (N (o247 P) Z Z))))) (N (o11 P) (N (o19 P) (N (o35 P) (N (o67 P) (N (o131 P) (N (o259 P) Z Z) Z) (N (o195 P) Z Z)) (N (o99 P) (N (o163 P) Z Z) (N (o227 P) Z Z))) (N (o51 P) (N (o83 P) (N (o147 P) Z Z) (N (o211 P) Z Z)) (N (o115 P) (N (o179 P) Z Z) (N (o243 P) Z Z)))) (N (o27 P) (N (o43 P) (N (o75 P) (N (o139 P) Z Z) (N (o203 P) Z Z)) (N (o107 P) (N (o171 P) Z Z) (N (o235 P) Z Z))) (N (o59 P) (N (o91 P) (N (o155 P) Z Z) (N (o219 P) Z Z)) (N (o123 P) (N (o187 P) Z Z) (N (o251 P) Z Z)))))) (N (PySem.W.boot_o_5 P) (N (PySem.W.boot_o_9 P) (N (o17 P) (N (o33 P) (N (o65 P) (N (o129 P) (N (o257 P) Z Z) Z) (N (o193 P) Z Z)) (N (o97 P) (N (o161 P) Z Z) (N (o225 P) Z Z))) (N (o49 P) (N (o81 P) (N (o145 P) Z Z) (N (o209 P) Z Z)) (N (o113 P) (N (o177 P) Z Z) (N (o241 P) Z Z)))) (N (o25 P) (N (o41 P) (N (o73 P) (N (o137 P) Z Z) (N (o201 P) Z Z)) (N (o105 P) (N (o169 P) Z Z) (N (o233 P) Z Z))) (N (o57 P) (N (o89 P) (N (o153 P) Z Z) (N (o217 P) Z Z)) (N (o121 P) (N (o185 P) Z Z) (N (o249 P) Z Z))))) (N (o13 P) (N (o21 P) (N (o37 P) (N (o69 P) (N (o133 P) Z Z) (N (o197 P) Z Z)) (N (o101 P) (N (o165 P) Z Z) (N (o229 P) Z Z))) (N (o53 P) (N (o85 P) (N (o149 P) Z Z) (N (o213 P) Z Z)) (N (o117 P) (N (o181 P) Z Z) (N (o245 P) Z Z)))) (N (o29 P) (N (o45 P) (N (o77 P) (N (o141 P) Z Z) (N (o205 P) Z Z)) (N (o109 P) (N (o173 P) Z Z) (N (o237 P) Z Z))) (N (o61 P) (N (o93 P) (N (o157 P) Z Z) (N (o221 P) Z Z)) (N (o125 P) (N (o189 P) Z Z) (N (o253 P) Z Z))))))) (N (o2_1 P) (N (PySem.W.boot_o_4 P) (N (PySem.W.boot_o_8 P) (N (o16 P) (N (o32 P) (N (o64 P) (N (o128 P) (N (o256 P) Z Z) Z) (N (o192 P) Z Z)) (N (o96 P) (N (o160 P) Z Z) (N (o224 P) Z Z))) (N (o48 P) (N (o80 P) (N (o144 P) Z Z) (N (o208 P) Z Z)) (N (o112 P) (N (o176 P) Z Z) (N (o240 P) Z Z)))) (N (o24 P) (N (o40 P) (N (o72 P) (N (o136 P) Z Z) (N (o200 P) Z Z)) (N (o104 P) (N (o168 P) Z Z) (N (o232 P) Z Z))) (N (o56 P) (N (o88 P) (N (o152 P) Z Z) (N (o216 P) Z Z)) (N (o120 P) (N (o184 P) Z Z) (N (o248 P) Z Z))))) (N (o12_2 P) (N (o20 P) (N (o36 P) (N (o68 P) (N (o132 P) Z Z) (N (o196 P) Z Z)) (N (o100 P) (N (o164 P) Z Z) (N (o228 P) Z Z))) (N (o52 P) (N (o84 P) (N (o148 P) Z Z) (N (o212 P) Z Z)) (N (o116 P) (N (o180 P) Z Z) (N (o244 P) Z Z)))) (N (o28 P) (N (o44 P) (N (o76 P) (N (o140 P) Z Z) (N (o204 P) Z Z)) (N (o108 P) (N (o172 P) Z Z) (N (o236 P) Z Z))) (N (o60 P) (N (o92 P) (N (o156 P) Z Z) (N (o220 P) Z Z)) (N (o124 P) (N (o188 P) Z Z) (N (o252 P) Z Z)))))) (N (PySem.W.boot_o_6 P) (N (PySem.W.boot_o_10 P) (N (o18 P) (N (o34 P) (N (o66 P) (N (o130 P) (N (o258 P) Z Z) Z) (N (o194 P) Z Z)) (N (o98 P) (N (o162 P) Z Z) (N (o226 P) Z Z))) (N (o50 P) (N (o82 P) (N (o146 P) Z Z) (N (o210 P) Z Z)) (N (o114 P) (N (o178 P) Z Z) (N (o242 P) Z Z)))) (N (o26 P) (N (o42 P) (N (o74 P) (N (o138 P) Z Z) (N (o202 P) Z Z)) (N (o106 P) (N (o170 P) Z Z) (N (o234 P) Z Z))) (N (o58 P) (N (o90 P) (N (o154 P) Z Z) (N (o218 P) Z Z)) (N (o122 P) (N (o186 P) Z Z) (N (o250 P) Z Z))))) (N (o14 P) (N (o22 P) (N (o38 P) (N (o70 P) (N (o134 P) Z Z) (N (o198 P) Z Z)) (N (o102 P) (N (o166 P) Z Z) (N (o230 P) Z Z))) (N (o54 P) (N (o86 P) (N (o150 P) Z Z) (N (o214 P) Z Z)) (N (o118 P) (N (o182 P) Z Z) (N (o246 P) Z Z)))) (N (o30 P) (N (o46 P) (N (o78 P) (N (o142 P) Z Z) (N (o206 P) Z Z)) (N (o110 P) (N (o174 P) Z Z) (N (o238 P) Z Z))) (N (o62 P) (N (o94 P) (N (o158 P) Z Z) (N (o222 P) Z Z)) (N (o126 P) (N (o190 P) Z Z) (N (o254 P) Z Z))))))))
-- boundary 2: upto 25, objs 260, toks 540, pos ⟨144, 0, 208, 16⟩, steps 560
noncomputable def o3_3 (P : Params) : Obj := ⟨(.type "dict"), none, (.dict [D P (Str.ofString "__name__") 165 (.str (Str.ofString "emacs.markers") 584), D P (Str.ofString "__doc__") 166 .none, D P (Str.ofString "__package__") 167 .none, D P (Str.ofString "__loader__") 168 (.builtin "__main__.__loader__#opaque"), D P (Str.ofString "__spec__") 169 .none, D P (Str.ofString "__annotations__") 170 (.ref 6), D P (Str.ofString "__builtins__") 171 (.ref 4), D P (Str.ofString "__file__") 173 (.str (Str.ofString "/claim/cut.py") 172), D P (Str.ofString "__cached__") 174 .none, D P (Str.ofString "_wall") 193 (.ref 21), D P (Str.ofString "LispSignal") 226 (.ref 38), D P (Str.ofString "LONGEST") 232 (.int 4194304 231), D P (Str.ofString "need_writable") 239 (.ref 48), D P (Str.ofString "need_room") 247 (.ref 55), D P (Str.ofString "reached") 258 (.ref 62), D P (Str.ofString "tell_ahead") 268 (.ref 69), D P (Str.ofString "tell_behind") 279 (.ref 76), D P (Str.ofString "text_out") 289 (.ref 83), D P (Str.ofString "text_in") 298 (.ref 90), D P (Str.ofString "hung_out") 307 (.ref 97), D P (Str.ofString "hung_in") 317 (.ref 104), D P (Str.ofString "put_in") 328 (.ref 111), D P (Str.ofString "insert_at") 338 (.ref 119), D P (Str.ofString "insert") 347 (.ref 127), D P (Str.ofString "delete") 359 (.ref 134), D P (Str.ofString "rows_moved") 365 (.ref 139), D P (Str.ofString "replace") 380 (.ref 147), D P (Str.ofString "change_sign") 389 (.ref 154), D P (Str.ofString "subst_codes") 404 (.ref 161), D P (Str.ofString "transpose_regions") 419 (.ref 168), D P (Str.ofString "GapText") 539 (.ref 255), D P (Str.ofString "Opaque") 583 (.ref 290), D P (Str.ofString "Marker") 636 (.ref 332)].toArray 33), [].toArray⟩
noncomputable def o12_3 (P : Params) : Obj := ⟨.none, none, (.fields [(.int 1 0), (.int 0 0), (.ref 20), (.int 5 0), (.int 0 0), (.ref 27), (.int 12 0), (.int 0 0), (.ref 47), (.int 15 0), (.int 0 0), (.ref 54), (.int 18 0), (.int 0 0), (.ref 61), (.int 23 0), (.int 0 0), (.ref 68), (.int 26 0), (.int 0 0), (.ref 75), (.int 30 0), (.int 0 0), (.ref 82), (.int 38 0), (.int 0 0), (.ref 89), (.int 45 0), (.int 0 0), (.ref 96), (.int 50 0), (.int 0 0), (.ref 103), (.int 55 0), (.int 0 0), (.ref 110), (.int 68 0), (.int 0 0), (.ref 118), (.int 70 0), (.int 0 0), (.ref 126), (.int 72 0), (.int 0 0), (.ref 133), (.int 83 0), (.int 0 0), (.ref 138), (.int 88 0), (.int 0 0), (.ref 146), (.int 110 0), (.int 0 0), (.ref 153), (.int 119 0), (.int 0 0), (.ref 160), (.int 127 0), (.int 0 0), (.ref 167), (.int 144 0), (.int 0 0), (.ref 174), (.int 210 0), (.int 0 0), (.ref 265), (.int 221 0), (.int 0 0), (.ref 300)].toArray), [].toArray⟩
noncomputable def o260 (P : Params) : Obj := ⟨(.type "tuple"), none, (.seq [].toArray 0), [].toArray⟩
noncomputable def o261 (P : Params) : Obj := ⟨(.type "builtin_function_or_method"), none, (.fields [(.builtin "type.__prepare__"), (.type "type")].toArray), [].toArray⟩
noncomputable def o262 (P : Params) : Obj := ⟨(.type "dict"), none, (.dict [D P (Str.ofString "__module__") 549 (.str (Str.ofString "emacs.objects") 540), D P (Str.ofString "__qualname__") 551 (.str (Str.ofString "Opaque") 550), D P (Str.ofString "__firstlineno__") 553 (.int 210 552), D P (Str.ofString "shown") 560 (.ref 273), D P (Str.ofString "kind") 567 (.ref 280), D P (Str.ofString "same_as") 575 (.ref 287), D P (Str.ofString "__static_attributes__") 576 (.ref 288)].toArray 7), [].toArray⟩
noncomputable def o263 (P : Params) : Obj := ⟨(.type "tuple"), none, (.seq [].toArray 0), [].toArray⟩
noncomputable def o264 (P : Params) : Obj := ⟨.none, none, (.fields [(.int 212 0), (.int 4 0), (.ref 272), (.int 215 0), (.int 4 0), (.ref 279), (.int 218 0), (.int 4 0), (.ref 286)].toArray), [].toArray⟩
noncomputable def o265 (P : Params) : Obj := ⟨(.type "code"), none, (.fields [(.str (Str.ofString "Opaque") 544), (.str (Str.ofString "Opaque") 545), (.str (Str.ofString "/claim/cut.py") 546), (.int 210 0), (.int 0 0), (.int 0 0), (.int 0 0), (.int 0 0), (.ref 263), (.bool false), (.int 181 0), (.ref 264), .none, .none, .none, .none, (.int 547 0), (.int 210 0), (.str (Str.ofString "/claim/cut.py") 548)].toArray), [].toArray⟩
noncomputable def o266 (P : Params) : Obj := ⟨(.type "frame"), none, .plain, [(some (.ref 265)), (some (.ref 3)), (some (.ref 262)), none, (some (.str (Str.ofString "emacs.objects") 540)), none, (some (.ref 0))].toArray⟩
noncomputable def o267 (P : Params) : Obj := ⟨(.type "tuple"), none, (.seq [].toArray 0), [].toArray⟩
noncomputable def o268 (P : Params) : Obj := ⟨.none, none, (.fields [].toArray), [].toArray⟩
noncomputable def o269 (P : Params) : Obj := ⟨(.type "tuple"), none, (.seq [(.str (Str.ofString "self") 557)].toArray 0), [].toArray⟩
noncomputable def o270 (P : Params) : Obj := ⟨(.type "tuple"), none, (.seq [].toArray 0), [].toArray⟩
noncomputable def o271 (P : Params) : Obj := ⟨.none, none, (fZ (ms 26 0) (Str.ofString "Opaque.shown")), [].toArray⟩
noncomputable def o272 (P : Params) : Obj := ⟨(.type "code"), none, (.fields [(.str (Str.ofString "shown") 554), (.str (Str.ofString "Opaque.shown") 555), (.str (Str.ofString "/claim/cut.py") 556), (.int 212 0), (.int 1 0), (.int 0 0), (.int 0 0), (.int 3 0), (.ref 267), (.bool true), (.int 181 0), (.ref 268), .none, (.ref 269), (.ref 270), (.ref 271), (.int 558 0), (.int 212 0), (.str (Str.ofString "/claim/cut.py") 559)].toArray), [].toArray⟩
noncomputable def o273 (P : Params) : Obj := ⟨(.type "function"), none, (fD (ms 26 0) (Str.ofString "Opaque.shown") .none (.str (Str.ofString "emacs.objects") 540) (.ref 272)), [].toArray⟩
noncomputable def o274 (P : Params) : Obj := ⟨(.type "tuple"), none, (.seq [].toArray 0), [].toArray⟩
noncomputable def o275 (P : Params) : Obj := ⟨.none, none, (.fields [].toArray), [].toArray⟩
noncomputable def o276 (P : Params) : Obj := ⟨(.type "tuple"), none, (.seq [(.str (Str.ofString "self") 564)].toArray 0), [].toArray⟩
noncomputable def o277 (P : Params) : Obj := ⟨(.type "tuple"), none, (.seq [].toArray 0), [].toArray⟩
noncomputable def o278 (P : Params) : Obj := ⟨.none, none, (fZ (ms 26 1) (Str.ofString "Opaque.kind")), [].toArray⟩
noncomputable def o279 (P : Params) : Obj := ⟨(.type "code"), none, (.fields [(.str (Str.ofString "kind") 561), (.str (Str.ofString "Opaque.kind") 562), (.str (Str.ofString "/claim/cut.py") 563), (.int 215 0), (.int 1 0), (.int 0 0), (.int 0 0), (.int 3 0), (.ref 274), (.bool true), (.int 181 0), (.ref 275), .none, (.ref 276), (.ref 277), (.ref 278), (.int 565 0), (.int 215 0), (.str (Str.ofString "/claim/cut.py") 566)].toArray), [].toArray⟩
noncomputable def o280 (P : Params) : Obj := ⟨(.type "function"), none, (fD (ms 26 1) (Str.ofString "Opaque.kind") .none (.str (Str.ofString "emacs.objects") 540) (.ref 279)), [].toArray⟩
noncomputable def o281 (P : Params) : Obj := ⟨(.type "tuple"), none, (.seq [].toArray 0), [].toArray⟩
noncomputable def o282 (P : Params) : Obj := ⟨.none, none, (.fields [].toArray), [].toArray⟩
noncomputable def o283 (P : Params) : Obj := ⟨(.type "tuple"), none, (.seq [(.str (Str.ofString "self") 571), (.str (Str.ofString "other") 572)].toArray 0), [].toArray⟩
noncomputable def o284 (P : Params) : Obj := ⟨(.type "tuple"), none, (.seq [].toArray 0), [].toArray⟩
noncomputable def o285 (P : Params) : Obj := ⟨.none, none, (fZ (ms 26 2) (Str.ofString "Opaque.same_as")), [].toArray⟩
noncomputable def o286 (P : Params) : Obj := ⟨(.type "code"), none, (.fields [(.str (Str.ofString "same_as") 568), (.str (Str.ofString "Opaque.same_as") 569), (.str (Str.ofString "/claim/cut.py") 570), (.int 218 0), (.int 2 0), (.int 0 0), (.int 0 0), (.int 3 0), (.ref 281), (.bool true), (.int 181 0), (.ref 282), .none, (.ref 283), (.ref 284), (.ref 285), (.int 573 0), (.int 218 0), (.str (Str.ofString "/claim/cut.py") 574)].toArray), [].toArray⟩
noncomputable def o287 (P : Params) : Obj := ⟨(.type "function"), none, (fD (ms 26 2) (Str.ofString "Opaque.same_as") .none (.str (Str.ofString "emacs.objects") 540) (.ref 286)), [].toArray⟩
noncomputable def o288 (P : Params) : Obj := ⟨(.type "tuple"), none, (.seq [].toArray 0), [].toArray⟩
noncomputable def o289 (P : Params) : Obj := ⟨(.type "dict"), none, (.dict [D P (Str.ofString "__module__") 549 (.str (Str.ofString "emacs.objects") 540), D P (Str.ofString "__firstlineno__") 553 (.int 210 552), D P (Str.ofString "shown") 560 (.ref 273), D P (Str.ofString "kind") 567 (.ref 280), D P (Str.ofString "same_as") 575 (.ref 287), D P (Str.ofString "__static_attributes__") 576 (.ref 288), D P (Str.ofString "__dict__") 578 (.ref 291), D P (Str.ofString "__weakref__") 580 (.ref 292), D P (Str.ofString "__doc__") 581 .none].toArray 4), [].toArray⟩
noncomputable def o290 (P : Params) : Obj := ⟨(.type "type"), none, (cD (Str.ofString "Opaque") [(.type "object")] [(.ref 290), (.type "object")] 289 (Str.ofString "Opaque") [(.ref 332)]), [none, none, (some (.str (Str.ofString "Opaque") 542)), (some (.str (Str.ofString "Opaque") 550)), (some (.builtin "object.__new__")), (some (.bool true))].toArray⟩
noncomputable def o291 (P : Params) : Obj := ⟨(.type "getset_descriptor"), none, (.fields [(.str (Str.ofString "__dict__") 577), (.ref 290), (.builtin "function.__dict__"), (.builtin "function.__dict__#set")].toArray), [].toArray⟩
noncomputable def o292 (P : Params) : Obj := ⟨(.type "getset_descriptor"), none, (.fields [(.str (Str.ofString "__weakref__") 579), (.ref 290), (.builtin "ExceptionGroup.__weakref__"), .none].toArray), [].toArray⟩
noncomputable def o293 (P : Params) : Obj := ⟨(.type "super"), none, (.fields [(.ref 290), (.ref 290), (.ref 290)].toArray), [].toArray⟩
noncomputable def o294 (P : Params) : Obj := ⟨(.type "builtin_function_or_method"), none, (.fields [(.builtin "object.__init_subclass__"), (.ref 290)].toArray), [].toArray⟩
noncomputable def o295 (P : Params) : Obj := ⟨(.type "tuple"), none, (.seq [(.ref 290)].toArray 0), [].toArray⟩
noncomputable def o296 (P : Params) : Obj := ⟨(.type "builtin_function_or_method"), none, (.fields [(.builtin "type.__prepare__"), (.type "type")].toArray), [].toArray⟩
noncomputable def o297 (P : Params) : Obj := ⟨(.type "dict"), none, (.dict [D P (Str.ofString "__module__") 593 (.str (Str.ofString "emacs.markers") 584), D P (Str.ofString "__qualname__") 595 (.str (Str.ofString "Marker") 594), D P (Str.ofString "__firstlineno__") 597 (.int 221 596), D P (Str.ofString "__init__") 606 (.ref 308), D P (Str.ofString "shown") 613 (.ref 315), D P (Str.ofString "kind") 620 (.ref 322), D P (Str.ofString "same_as") 628 (.ref 329), D P (Str.ofString "__static_attributes__") 633 (.ref 330)].toArray 8), [].toArray⟩
noncomputable def o298 (P : Params) : Obj := ⟨(.type "tuple"), none, (.seq [].toArray 0), [].toArray⟩
noncomputable def o299 (P : Params) : Obj := ⟨.none, none, (.fields [(.int 223 0), (.int 4 0), (.ref 307), (.int 229 0), (.int 4 0), (.ref 314), (.int 232 0), (.int 4 0), (.ref 321), (.int 235 0), (.int 4 0), (.ref 328)].toArray), [].toArray⟩
noncomputable def o300 (P : Params) : Obj := ⟨(.type "code"), none, (.fields [(.str (Str.ofString "Marker") 588), (.str (Str.ofString "Marker") 589), (.str (Str.ofString "/claim/cut.py") 590), (.int 221 0), (.int 0 0), (.int 0 0), (.int 0 0), (.int 0 0), (.ref 298), (.bool false), (.int 181 0), (.ref 299), .none, .none, .none, .none, (.int 591 0), (.int 221 0), (.str (Str.ofString "/claim/cut.py") 592)].toArray), [].toArray⟩
noncomputable def o301 (P : Params) : Obj := ⟨(.type "frame"), none, .plain, [(some (.ref 300)), (some (.ref 3)), (some (.ref 297)), none, (some (.str (Str.ofString "emacs.markers") 584)), none, (some (.ref 0))].toArray⟩
noncomputable def o302 (P : Params) : Obj := ⟨(.type "tuple"), none, (.seq [].toArray 0), [].toArray⟩
noncomputable def o303 (P : Params) : Obj := ⟨.none, none, (.fields [].toArray), [].toArray⟩
noncomputable def o304 (P : Params) : Obj := ⟨(.type "tuple"), none, (.seq [(.str (Str.ofString "self") 601), (.str (Str.ofString "number") 602), (.str (Str.ofString "advances") 603)].toArray 0), [].toArray⟩
noncomputable def o305 (P : Params) : Obj := ⟨(.type "tuple"), none, (.seq [].toArray 0), [].toArray⟩
noncomputable def o306 (P : Params) : Obj := ⟨.none, none, (fZ (ms 28 0) (Str.ofString "Marker.__init__")), [].toArray⟩
noncomputable def o307 (P : Params) : Obj := ⟨(.type "code"), none, (.fields [(.str (Str.ofString "__init__") 598), (.str (Str.ofString "Marker.__init__") 599), (.str (Str.ofString "/claim/cut.py") 600), (.int 223 0), (.int 3 0), (.int 0 0), (.int 0 0), (.int 3 0), (.ref 302), (.bool true), (.int 181 0), (.ref 303), .none, (.ref 304), (.ref 305), (.ref 306), (.int 604 0), (.int 223 0), (.str (Str.ofString "/claim/cut.py") 605)].toArray), [].toArray⟩
noncomputable def o308 (P : Params) : Obj := ⟨(.type "function"), none, (fD (ms 28 0) (Str.ofString "Marker.__init__") .none (.str (Str.ofString "emacs.markers") 584) (.ref 307)), [].toArray⟩
noncomputable def o309 (P : Params) : Obj := ⟨(.type "tuple"), none, (.seq [].toArray 0), [].toArray⟩
noncomputable def o310 (P : Params) : Obj := ⟨.none, none, (.fields [].toArray), [].toArray⟩
noncomputable def o311 (P : Params) : Obj := ⟨(.type "tuple"), none, (.seq [(.str (Str.ofString "self") 610)].toArray 0), [].toArray⟩
noncomputable def o312 (P : Params) : Obj := ⟨(.type "tuple"), none, (.seq [].toArray 0), [].toArray⟩
noncomputable def o313 (P : Params) : Obj := ⟨.none, none, (fZ (ms 28 1) (Str.ofString "Marker.shown")), [].toArray⟩
noncomputable def o314 (P : Params) : Obj := ⟨(.type "code"), none, (.fields [(.str (Str.ofString "shown") 607), (.str (Str.ofString "Marker.shown") 608), (.str (Str.ofString "/claim/cut.py") 609), (.int 229 0), (.int 1 0), (.int 0 0), (.int 0 0), (.int 3 0), (.ref 309), (.bool true), (.int 181 0), (.ref 310), .none, (.ref 311), (.ref 312), (.ref 313), (.int 611 0), (.int 229 0), (.str (Str.ofString "/claim/cut.py") 612)].toArray), [].toArray⟩
noncomputable def o315 (P : Params) : Obj := ⟨(.type "function"), none, (fD (ms 28 1) (Str.ofString "Marker.shown") .none (.str (Str.ofString "emacs.markers") 584) (.ref 314)), [].toArray⟩
noncomputable def o316 (P : Params) : Obj := ⟨(.type "tuple"), none, (.seq [].toArray 0), [].toArray⟩
noncomputable def o317 (P : Params) : Obj := ⟨.none, none, (.fields [].toArray), [].toArray⟩
noncomputable def o318 (P : Params) : Obj := ⟨(.type "tuple"), none, (.seq [(.str (Str.ofString "self") 617)].toArray 0), [].toArray⟩
noncomputable def o319 (P : Params) : Obj := ⟨(.type "tuple"), none, (.seq [].toArray 0), [].toArray⟩
noncomputable def o320 (P : Params) : Obj := ⟨.none, none, (fZ (ms 28 2) (Str.ofString "Marker.kind")), [].toArray⟩
noncomputable def o321 (P : Params) : Obj := ⟨(.type "code"), none, (.fields [(.str (Str.ofString "kind") 614), (.str (Str.ofString "Marker.kind") 615), (.str (Str.ofString "/claim/cut.py") 616), (.int 232 0), (.int 1 0), (.int 0 0), (.int 0 0), (.int 3 0), (.ref 316), (.bool true), (.int 181 0), (.ref 317), .none, (.ref 318), (.ref 319), (.ref 320), (.int 618 0), (.int 232 0), (.str (Str.ofString "/claim/cut.py") 619)].toArray), [].toArray⟩
noncomputable def o322 (P : Params) : Obj := ⟨(.type "function"), none, (fD (ms 28 2) (Str.ofString "Marker.kind") .none (.str (Str.ofString "emacs.markers") 584) (.ref 321)), [].toArray⟩
noncomputable def o323 (P : Params) : Obj := ⟨(.type "tuple"), none, (.seq [].toArray 0), [].toArray⟩
noncomputable def o324 (P : Params) : Obj := ⟨.none, none, (.fields [].toArray), [].toArray⟩
noncomputable def o325 (P : Params) : Obj := ⟨(.type "tuple"), none, (.seq [(.str (Str.ofString "self") 624), (.str (Str.ofString "other") 625)].toArray 0), [].toArray⟩
noncomputable def o326 (P : Params) : Obj := ⟨(.type "tuple"), none, (.seq [].toArray 0), [].toArray⟩
noncomputable def o327 (P : Params) : Obj := ⟨.none, none, (fZ (ms 28 3) (Str.ofString "Marker.same_as")), [].toArray⟩
noncomputable def o328 (P : Params) : Obj := ⟨(.type "code"), none, (.fields [(.str (Str.ofString "same_as") 621), (.str (Str.ofString "Marker.same_as") 622), (.str (Str.ofString "/claim/cut.py") 623), (.int 235 0), (.int 2 0), (.int 0 0), (.int 0 0), (.int 3 0), (.ref 323), (.bool true), (.int 181 0), (.ref 324), .none, (.ref 325), (.ref 326), (.ref 327), (.int 626 0), (.int 235 0), (.str (Str.ofString "/claim/cut.py") 627)].toArray), [].toArray⟩
noncomputable def o329 (P : Params) : Obj := ⟨(.type "function"), none, (fD (ms 28 3) (Str.ofString "Marker.same_as") .none (.str (Str.ofString "emacs.markers") 584) (.ref 328)), [].toArray⟩
noncomputable def o330 (P : Params) : Obj := ⟨(.type "tuple"), none, (.seq [(.str (Str.ofString "advances") 629), (.str (Str.ofString "buffer") 630), (.str (Str.ofString "number") 631), (.str (Str.ofString "position") 632)].toArray 0), [].toArray⟩
noncomputable def o331 (P : Params) : Obj := ⟨(.type "dict"), none, (.dict [D P (Str.ofString "__module__") 593 (.str (Str.ofString "emacs.markers") 584), D P (Str.ofString "__firstlineno__") 597 (.int 221 596), D P (Str.ofString "__init__") 606 (.ref 308), D P (Str.ofString "shown") 613 (.ref 315), D P (Str.ofString "kind") 620 (.ref 322), D P (Str.ofString "same_as") 628 (.ref 329), D P (Str.ofString "__static_attributes__") 633 (.ref 330), D P (Str.ofString "__doc__") 634 .none].toArray 2), [].toArray⟩
noncomputable def o332 (P : Params) : Obj := ⟨(.type "type"), none, (cD (Str.ofString "Marker") [(.ref 290)] [(.ref 332), (.ref 290), (.type "object")] 331 (Str.ofString "Marker") []), [(some (.ref 295)), none, (some (.str (Str.ofString "Marker") 586)), (some (.str (Str.ofString "Marker") 594)), (some (.builtin "object.__new__")), (some (.bool true))].toArray⟩
noncomputable def o333 (P : Params) : Obj := ⟨(.type "super"), none, (.fields [(.ref 332), (.ref 332), (.ref 332)].toArray), [].toArray⟩
noncomputable def o334 (P : Params) : Obj := ⟨(.type "builtin_function_or_method"), none, (.fields [(.builtin "object.__init_subclass__"), (.ref 332)].toArray), [].toArray⟩
noncomputable def t3 (P : Params) : BT := (N (PySem.W.boot_o_0 P) (N (PySem.W.boot_o_1 P) (N (o3_3 P) (N (PySem.W.boot_o_7 P) (N (o15 P) (N (o31 P) (N (o63 P) (N (o127 P) (N (o255 P) Z Z) Z) (N (o191 P) (N (o319 P) Z Z) Z)) (N (o95 P) (N (o159 P) (N (o287 P) Z Z) Z) (N (o223 P) Z Z))) (N (o47 P) (N (o79 P) (N (o143 P) (N (o271 P) Z Z) Z) (N (o207 P) Z Z)) (N (o111 P) (N (o175 P) (N (o303 P) Z Z) Z) (N (o239 P) Z Z)))) (N (o23 P) (N (o39 P) (N (o71 P) (N (o135 P) (N (o263 P) Z Z) Z) (N (o199 P) (N (o327 P) Z Z) Z)) (N (o103 P) (N (o167 P) (N (o295 P) Z Z) Z) (N (o231 P) Z Z))) (N (o55 P) (N (o87 P) (N (o151 P) (N (o279 P) Z Z) Z) (N (o215 P) Z Z)) (N (o119 P) (N (o183 P) (N (o311 P) Z Z) Z) (N (o247 P) Z Z))))) (N (o11 P) (N (o19 P) (N (o35 P) (N (o67 P) (N (o131 P) (N (o259 P) Z Z) Z) (N (o195 P) (N (o323 P) Z Z) Z)) (N (o99 P) (N (o163 P) (N (o291 P) Z Z) Z) (N (o227 P) Z Z))) (N (o51 P) (N (o83 P) (N (o147 P) (N (o275 P) Z Z) Z) (N (o211 P) Z Z)) (N (o115 P) (N (o179 P) (N (o307 P) Z Z) Z) (N (o243 P) Z Z)))) (N (o27 P) (N (o43 P) (N (o75 P) (N (o139 P) (N (o267 P) Z Z) Z) (N (o203 P) (N (o331 P) Z Z) Z)) (N (o107 P) (N (o171 P) (N (o299 P) Z Z) Z) (N (o235 P) Z Z))) (N (o59 P) (N (o91 P) (N (o155 P) (N (o283 P) Z Z) Z) (N (o219 P) Z Z)) (N (o123 P) (N (o187 P) (N (o315 P) Z Z) Z) (N (o251 P) Z Z)))))) (N (PySem.W.boot_o_5 P) (N (PySem.W.boot_o_9 P) (N (o17 P) (N (o33 P) (N (o65 P) (N (o129 P) (N (o257 P) Z Z) Z) (N (o193 P) (N (o321 P) Z Z) Z)) (N (o97 P) (N (o161 P) (N (o289 P) Z Z) Z) (N (o225 P) Z Z))) (N (o49 P) (N (o81 P) (N (o145 P) (N (o273 P) Z Z) Z) (N (o209 P) Z Z)) (N (o113 P) (N (o177 P) (N (o305 P) Z Z) Z) (N (o241 P) Z Z)))) (N (o25 P) (N (o41 P) (N (o73 P) (N (o137 P) (N (o265 P) Z Z) Z) (N (o201 P) (N (o329 P) Z Z) Z)) (N (o105 P) (N (o169 P) (N (o297 P) Z Z) Z) (N (o233 P) Z Z))) (N (o57 P) (N (o89 P) (N (o153 P) (N (o281 P) Z Z) Z) (N (o217 P) Z Z)) (N (o121 P) (N (o185 P) (N (o313 P) Z Z) Z) (N (o249 P) Z Z))))) (N (o13 P) (N (o21 P) (N (o37 P) (N (o69 P) (N (o133 P) (N (o261 P) Z Z) Z) (N (o197 P) (N (o325 P) Z Z) Z)) (N (o101 P) (N (o165 P) (N (o293 P) Z Z) Z) (N (o229 P) Z Z))) (N (o53 P) (N (o85 P) (N (o149 P) (N (o277 P) Z Z) Z) (N (o213 P) Z Z)) (N (o117 P) (N (o181 P) (N (o309 P) Z Z) Z) (N (o245 P) Z Z)))) (N (o29 P) (N (o45 P) (N (o77 P) (N (o141 P) (N (o269 P) Z Z) Z) (N (o205 P) (N (o333 P) Z Z) Z)) (N (o109 P) (N (o173 P) (N (o301 P) Z Z) Z) (N (o237 P) Z Z))) (N (o61 P) (N (o93 P) (N (o157 P) (N (o285 P) Z Z) Z) (N (o221 P) Z Z)) (N (o125 P) (N (o189 P) (N (o317 P) Z Z) Z) (N (o253 P) Z Z))))))) (N (o2_1 P) (N (PySem.W.boot_o_4 P) (N (PySem.W.boot_o_8 P) (N (o16 P) (N (o32 P) (N (o64 P) (N (o128 P) (N (o256 P) Z Z) Z) (N (o192 P) (N (o320 P) Z Z) Z)) (N (o96 P) (N (o160 P) (N (o288 P) Z Z) Z) (N (o224 P) Z Z))) (N (o48 P) (N (o80 P) (N (o144 P) (N (o272 P) Z Z) Z) (N (o208 P) Z Z)) (N (o112 P) (N (o176 P) (N (o304 P) Z Z) Z) (N (o240 P) Z Z)))) (N (o24 P) (N (o40 P) (N (o72 P) (N (o136 P) (N (o264 P) Z Z) Z) (N (o200 P) (N (o328 P) Z Z) Z)) (N (o104 P) (N (o168 P) (N (o296 P) Z Z) Z) (N (o232 P) Z Z))) (N (o56 P) (N (o88 P) (N (o152 P) (N (o280 P) Z Z) Z) (N (o216 P) Z Z)) (N (o120 P) (N (o184 P) (N (o312 P) Z Z) Z) (N (o248 P) Z Z))))) (N (o12_3 P) (N (o20 P) (N (o36 P) (N (o68 P) (N (o132 P) (N (o260 P) Z Z) Z) (N (o196 P) (N (o324 P) Z Z) Z)) (N (o100 P) (N (o164 P) (N (o292 P) Z Z) Z) (N (o228 P) Z Z))) (N (o52 P) (N (o84 P) (N (o148 P) (N (o276 P) Z Z) Z) (N (o212 P) Z Z)) (N (o116 P) (N (o180 P) (N (o308 P) Z Z) Z) (N (o244 P) Z Z)))) (N (o28 P) (N (o44 P) (N (o76 P) (N (o140 P) (N (o268 P) Z Z) Z) (N (o204 P) (N (o332 P) Z Z) Z)) (N (o108 P) (N (o172 P) (N (o300 P) Z Z) Z) (N (o236 P) Z Z))) (N (o60 P) (N (o92 P) (N (o156 P) (N (o284 P) Z Z) Z) (N (o220 P) Z Z)) (N (o124 P) (N (o188 P) (N (o316 P) Z Z) Z) (N (o252 P) Z Z)))))) (N (PySem.W.boot_o_6 P) (N (PySem.W.boot_o_10 P) (N (o18 P) (N (o34 P) (N (o66 P) (N (o130 P) (N (o258 P) Z Z) Z) (N (o194 P) (N (o322 P) Z Z) Z)) (N (o98 P) (N (o162 P) (N (o290 P) Z Z) Z) (N (o226 P) Z Z))) (N (o50 P) (N (o82 P) (N (o146 P) (N (o274 P) Z Z) Z) (N (o210 P) Z Z)) (N (o114 P) (N (o178 P) (N (o306 P) Z Z) Z) (N (o242 P) Z Z)))) (N (o26 P) (N (o42 P) (N (o74 P) (N (o138 P) (N (o266 P) Z Z) Z) (N (o202 P) (N (o330 P) Z Z) Z)) (N (o106 P) (N (o170 P) (N (o298 P) Z Z) Z) (N (o234 P) Z Z))) (N (o58 P) (N (o90 P) (N (o154 P) (N (o282 P) Z Z) Z) (N (o218 P) Z Z)) (N (o122 P) (N (o186 P) (N (o314 P) Z Z) Z) (N (o250 P) Z Z))))) (N (o14 P) (N (o22 P) (N (o38 P) (N (o70 P) (N (o134 P) (N (o262 P) Z Z) Z) (N (o198 P) (N (o326 P) Z Z) Z)) (N (o102 P) (N (o166 P) (N (o294 P) Z Z) Z) (N (o230 P) Z Z))) (N (o54 P) (N (o86 P) (N (o150 P) (N (o278 P) Z Z) Z) (N (o214 P) Z Z)) (N (o118 P) (N (o182 P) (N (o310 P) Z Z) Z) (N (o246 P) Z Z)))) (N (o30 P) (N (o46 P) (N (o78 P) (N (o142 P) (N (o270 P) Z Z) Z) (N (o206 P) (N (o334 P) Z Z) Z)) (N (o110 P) (N (o174 P) (N (o302 P) Z Z) Z) (N (o238 P) Z Z))) (N (o62 P) (N (o94 P) (N (o158 P) (N (o286 P) Z Z) Z) (N (o222 P) Z Z)) (N (o126 P) (N (o190 P) (N (o318 P) Z Z) Z) (N (o254 P) Z Z))))))))
-- boundary 3: upto 29, objs 335, toks 637, pos ⟨221, 0, 236, 16⟩, steps 644
noncomputable def o3_4 (P : Params) : Obj := ⟨(.type "dict"), none, (.dict [D P (Str.ofString "__name__") 165 (.str (Str.ofString "emacs.buffer") 735), D P (Str.ofString "__doc__") 166 .none, D P (Str.ofString "__package__") 167 .none, D P (Str.ofString "__loader__") 168 (.builtin "__main__.__loader__#opaque"), D P (Str.ofString "__spec__") 169 .none, D P (Str.ofString "__annotations__") 170 (.ref 6), D P (Str.ofString "__builtins__") 171 (.ref 4), D P (Str.ofString "__file__") 173 (.str (Str.ofString "/claim/cut.py") 172), D P (Str.ofString "__cached__") 174 .none, D P (Str.ofString "_wall") 193 (.ref 21), D P (Str.ofString "LispSignal") 226 (.ref 38), D P (Str.ofString "LONGEST") 232 (.int 4194304 231), D P (Str.ofString "need_writable") 239 (.ref 48), D P (Str.ofString "need_room") 247 (.ref 55), D P (Str.ofString "reached") 258 (.ref 62), D P (Str.ofString "tell_ahead") 268 (.ref 69), D P (Str.ofString "tell_behind") 279 (.ref 76), D P (Str.ofString "text_out") 289 (.ref 83), D P (Str.ofString "text_in") 298 (.ref 90), D P (Str.ofString "hung_out") 307 (.ref 97), D P (Str.ofString "hung_in") 317 (.ref 104), D P (Str.ofString "put_in") 328 (.ref 111), D P (Str.ofString "insert_at") 338 (.ref 119), D P (Str.ofString "insert") 347 (.ref 127), D P (Str.ofString "delete") 359 (.ref 134), D P (Str.ofString "rows_moved") 365 (.ref 139), D P (Str.ofString "replace") 380 (.ref 147), D P (Str.ofString "change_sign") 389 (.ref 154), D P (Str.ofString "subst_codes") 404 (.ref 161), D P (Str.ofString "transpose_regions") 419 (.ref 168), D P (Str.ofString "GapText") 539 (.ref 255), D P (Str.ofString "Opaque") 583 (.ref 290), D P (Str.ofString "Marker") 636 (.ref 332), D P (Str.ofString "Markers") 734 (.ref 400)].toArray 34), [].toArray⟩
noncomputable def o12_4 (P : Params) : Obj := ⟨.none, none, (.fields [(.int 1 0), (.int 0 0), (.ref 20), (.int 5 0), (.int 0 0), (.ref 27), (.int 12 0), (.int 0 0), (.ref 47), (.int 15 0), (.int 0 0), (.ref 54), (.int 18 0), (.int 0 0), (.ref 61), (.int 23 0), (.int 0 0), (.ref 68), (.int 26 0), (.int 0 0), (.ref 75), (.int 30 0), (.int 0 0), (.ref 82), (.int 38 0), (.int 0 0), (.ref 89), (.int 45 0), (.int 0 0), (.ref 96), (.int 50 0), (.int 0 0), (.ref 103), (.int 55 0), (.int 0 0), (.ref 110), (.int 68 0), (.int 0 0), (.ref 118), (.int 70 0), (.int 0 0), (.ref 126), (.int 72 0), (.int 0 0), (.ref 133), (.int 83 0), (.int 0 0), (.ref 138), (.int 88 0), (.int 0 0), (.ref 146), (.int 110 0), (.int 0 0), (.ref 153), (.int 119 0), (.int 0 0), (.ref 160), (.int 127 0), (.int 0 0), (.ref 167), (.int 144 0), (.int 0 0), (.ref 174), (.int 210 0), (.int 0 0), (.ref 265), (.int 221 0), (.int 0 0), (.ref 300), (.int 237 0), (.int 0 0), (.ref 340)].toArray), [].toArray⟩
noncomputable def o335 (P : Params) : Obj := ⟨(.type "tuple"), none, (.seq [].toArray 0), [].toArray⟩
noncomputable def o336 (P : Params) : Obj := ⟨(.type "builtin_function_or_method"), none, (.fields [(.builtin "type.__prepare__"), (.type "type")].toArray), [].toArray⟩
noncomputable def o337 (P : Params) : Obj := ⟨(.type "dict"), none, (.dict [D P (Str.ofString "__module__") 644 (.str (Str.ofString "emacs.markers") 584), D P (Str.ofString "__qualname__") 646 (.str (Str.ofString "Markers") 645), D P (Str.ofString "__firstlineno__") 648 (.int 237 647), D P (Str.ofString "__init__") 655 (.ref 348), D P (Str.ofString "numbers") 662 (.ref 355), D P (Str.ofString "put") 671 (.ref 362), D P (Str.ofString "drop") 679 (.ref 369), D P (Str.ofString "within") 690 (.ref 376), D P (Str.ofString "inserted") 702 (.ref 383), D P (Str.ofString "deleted") 713 (.ref 390), D P (Str.ofString "replaced") 725 (.ref 397), D P (Str.ofString "__static_attributes__") 727 (.ref 398)].toArray 12), [].toArray⟩
noncomputable def o338 (P : Params) : Obj := ⟨(.type "tuple"), none, (.seq [].toArray 0), [].toArray⟩
noncomputable def o339 (P : Params) : Obj := ⟨.none, none, (.fields [(.int 239 0), (.int 4 0), (.ref 347), (.int 242 0), (.int 4 0), (.ref 354), (.int 245 0), (.int 4 0), (.ref 361), (.int 249 0), (.int 4 0), (.ref 368), (.int 253 0), (.int 4 0), (.ref 375), (.int 260 0), (.int 4 0), (.ref 382), (.int 266 0), (.int 4 0), (.ref 389), (.int 274 0), (.int 4 0), (.ref 396)].toArray), [].toArray⟩
noncomputable def o340 (P : Params) : Obj := ⟨(.type "code"), none, (.fields [(.str (Str.ofString "Markers") 639), (.str (Str.ofString "Markers") 640), (.str (Str.ofString "/claim/cut.py") 641), (.int 237 0), (.int 0 0), (.int 0 0), (.int 0 0), (.int 0 0), (.ref 338), (.bool false), (.int 181 0), (.ref 339), .none, .none, .none, .none, (.int 642 0), (.int 237 0), (.str (Str.ofString "/claim/cut.py") 643)].toArray), [].toArray⟩
noncomputable def o341 (P : Params) : Obj := ⟨(.type "frame"), none, .plain, [(some (.ref 340)), (some (.ref 3)), (some (.ref 337)), none, (some (.str (Str.ofString "emacs.markers") 584)), none, (some (.ref 0))].toArray⟩
noncomputable def o342 (P : Params) : Obj := ⟨(.type "tuple"), none, (.seq [].toArray 0), [].toArray⟩
noncomputable def o343 (P : Params) : Obj := ⟨.none, none, (.fields [].toArray), [].toArray⟩
noncomputable def o344 (P : Params) : Obj := ⟨(.type "tuple"), none, (.seq [(.str (Str.ofString "self") 652)].toArray 0), [].toArray⟩
noncomputable def o345 (P : Params) : Obj := ⟨(.type "tuple"), none, (.seq [].toArray 0), [].toArray⟩
noncomputable def o346 (P : Params) : Obj := ⟨.none, none, (fZ (ms 29 0) (Str.ofString "Markers.__init__")), [].toArray⟩
noncomputable def o347 (P : Params) : Obj := ⟨(.type "code"), none, (.fields [(.str (Str.ofString "__init__") 649), (.str (Str.ofString "Markers.__init__") 650), (.str (Str.ofString "/claim/cut.py") 651), (.int 239 0), (.int 1 0), (.int 0 0), (.int 0 0), (.int 3 0), (.ref 342), (.bool true), (.int 181 0), (.ref 343), .none, (.ref 344), (.ref 345), (.ref 346), (.int 653 0), (.int 239 0), (.str (Str.ofString "/claim/cut.py") 654)].toArray), [].toArray⟩
noncomputable def o348 (P : Params) : Obj := ⟨(.type "function"), none, (fD (ms 29 0) (Str.ofString "Markers.__init__") .none (.str (Str.ofString "emacs.markers") 584) (.ref 347)), [].toArray⟩
noncomputable def o349 (P : Params) : Obj := ⟨(.type "tuple"), none, (.seq [].toArray 0), [].toArray⟩
noncomputable def o350 (P : Params) : Obj := ⟨.none, none, (.fields [].toArray), [].toArray⟩
noncomputable def o351 (P : Params) : Obj := ⟨(.type "tuple"), none, (.seq [(.str (Str.ofString "self") 659)].toArray 0), [].toArray⟩
noncomputable def o352 (P : Params) : Obj := ⟨(.type "tuple"), none, (.seq [].toArray 0), [].toArray⟩
noncomputable def o353 (P : Params) : Obj := ⟨.none, none, (fZ (ms 29 1) (Str.ofString "Markers.numbers")), [].toArray⟩
noncomputable def o354 (P : Params) : Obj := ⟨(.type "code"), none, (.fields [(.str (Str.ofString "numbers") 656), (.str (Str.ofString "Markers.numbers") 657), (.str (Str.ofString "/claim/cut.py") 658), (.int 242 0), (.int 1 0), (.int 0 0), (.int 0 0), (.int 3 0), (.ref 349), (.bool true), (.int 181 0), (.ref 350), .none, (.ref 351), (.ref 352), (.ref 353), (.int 660 0), (.int 242 0), (.str (Str.ofString "/claim/cut.py") 661)].toArray), [].toArray⟩
noncomputable def o355 (P : Params) : Obj := ⟨(.type "function"), none, (fD (ms 29 1) (Str.ofString "Markers.numbers") .none (.str (Str.ofString "emacs.markers") 584) (.ref 354)), [].toArray⟩
noncomputable def o356 (P : Params) : Obj := ⟨(.type "tuple"), none, (.seq [].toArray 0), [].toArray⟩
noncomputable def o357 (P : Params) : Obj := ⟨.none, none, (.fields [].toArray), [].toArray⟩
noncomputable def o358 (P : Params) : Obj := ⟨(.type "tuple"), none, (.seq [(.str (Str.ofString "self") 666), (.str (Str.ofString "marker") 667), (.str (Str.ofString "position") 668)].toArray 0), [].toArray⟩
noncomputable def o359 (P : Params) : Obj := ⟨(.type "tuple"), none, (.seq [].toArray 0), [].toArray⟩
noncomputable def o360 (P : Params) : Obj := ⟨.none, none, (fZ (ms 29 2) (Str.ofString "Markers.put")), [].toArray⟩
noncomputable def o361 (P : Params) : Obj := ⟨(.type "code"), none, (.fields [(.str (Str.ofString "put") 663), (.str (Str.ofString "Markers.put") 664), (.str (Str.ofString "/claim/cut.py") 665), (.int 245 0), (.int 3 0), (.int 0 0), (.int 0 0), (.int 3 0), (.ref 356), (.bool true), (.int 181 0), (.ref 357), .none, (.ref 358), (.ref 359), (.ref 360), (.int 669 0), (.int 245 0), (.str (Str.ofString "/claim/cut.py") 670)].toArray), [].toArray⟩
noncomputable def o362 (P : Params) : Obj := ⟨(.type "function"), none, (fD (ms 29 2) (Str.ofString "Markers.put") .none (.str (Str.ofString "emacs.markers") 584) (.ref 361)), [].toArray⟩
noncomputable def o363 (P : Params) : Obj := ⟨(.type "tuple"), none, (.seq [].toArray 0), [].toArray⟩
noncomputable def o364 (P : Params) : Obj := ⟨.none, none, (.fields [].toArray), [].toArray⟩
noncomputable def o365 (P : Params) : Obj := ⟨(.type "tuple"), none, (.seq [(.str (Str.ofString "self") 675), (.str (Str.ofString "marker") 676)].toArray 0), [].toArray⟩
noncomputable def o366 (P : Params) : Obj := ⟨(.type "tuple"), none, (.seq [].toArray 0), [].toArray⟩
noncomputable def o367 (P : Params) : Obj := ⟨.none, none, (fZ (ms 29 3) (Str.ofString "Markers.drop")), [].toArray⟩
noncomputable def o368 (P : Params) : Obj := ⟨(.type "code"), none, (.fields [(.str (Str.ofString "drop") 672), (.str (Str.ofString "Markers.drop") 673), (.str (Str.ofString "/claim/cut.py") 674), (.int 249 0), (.int 2 0), (.int 0 0), (.int 0 0), (.int 3 0), (.ref 363), (.bool true), (.int 181 0), (.ref 364), .none, (.ref 365), (.ref 366), (.ref 367), (.int 677 0), (.int 249 0), (.str (Str.ofString "/claim/cut.py") 678)].toArray), [].toArray⟩
noncomputable def o369 (P : Params) : Obj := ⟨(.type "function"), none, (fD (ms 29 3) (Str.ofString "Markers.drop") .none (.str (Str.ofString "emacs.markers") 584) (.ref 368)), [].toArray⟩
noncomputable def o370 (P : Params) : Obj := ⟨(.type "tuple"), none, (.seq [].toArray 0), [].toArray⟩
noncomputable def o371 (P : Params) : Obj := ⟨.none, none, (.fields [].toArray), [].toArray⟩
noncomputable def o372 (P : Params) : Obj := ⟨(.type "tuple"), none, (.seq [(.str (Str.ofString "self") 683), (.str (Str.ofString "start") 684), (.str (Str.ofString "end") 685), (.str (Str.ofString "found") 686), (.str (Str.ofString "number") 687)].toArray 0), [].toArray⟩
noncomputable def o373 (P : Params) : Obj := ⟨(.type "tuple"), none, (.seq [].toArray 0), [].toArray⟩
noncomputable def o374 (P : Params) : Obj := ⟨.none, none, (fZ (ms 29 4) (Str.ofString "Markers.within")), [].toArray⟩
noncomputable def o375 (P : Params) : Obj := ⟨(.type "code"), none, (.fields [(.str (Str.ofString "within") 680), (.str (Str.ofString "Markers.within") 681), (.str (Str.ofString "/claim/cut.py") 682), (.int 253 0), (.int 3 0), (.int 0 0), (.int 0 0), (.int 3 0), (.ref 370), (.bool true), (.int 181 0), (.ref 371), .none, (.ref 372), (.ref 373), (.ref 374), (.int 688 0), (.int 253 0), (.str (Str.ofString "/claim/cut.py") 689)].toArray), [].toArray⟩
noncomputable def o376 (P : Params) : Obj := ⟨(.type "function"), none, (fD (ms 29 4) (Str.ofString "Markers.within") .none (.str (Str.ofString "emacs.markers") 584) (.ref 375)), [].toArray⟩
noncomputable def o377 (P : Params) : Obj := ⟨(.type "tuple"), none, (.seq [].toArray 0), [].toArray⟩
noncomputable def o378 (P : Params) : Obj := ⟨.none, none, (.fields [].toArray), [].toArray⟩
noncomputable def o379 (P : Params) : Obj := ⟨(.type "tuple"), none, (.seq [(.str (Str.ofString "self") 694), (.str (Str.ofString "start") 695), (.str (Str.ofString "end") 696), (.str (Str.ofString "is_before") 697), (.str (Str.ofString "number") 698), (.str (Str.ofString "marker") 699)].toArray 0), [].toArray⟩
noncomputable def o380 (P : Params) : Obj := ⟨(.type "tuple"), none, (.seq [].toArray 0), [].toArray⟩
noncomputable def o381 (P : Params) : Obj := ⟨.none, none, (fZ (ms 29 5) (Str.ofString "Markers.inserted")), [].toArray⟩
noncomputable def o382 (P : Params) : Obj := ⟨(.type "code"), none, (.fields [(.str (Str.ofString "inserted") 691), (.str (Str.ofString "Markers.inserted") 692), (.str (Str.ofString "/claim/cut.py") 693), (.int 260 0), (.int 4 0), (.int 0 0), (.int 0 0), (.int 3 0), (.ref 377), (.bool true), (.int 181 0), (.ref 378), .none, (.ref 379), (.ref 380), (.ref 381), (.int 700 0), (.int 260 0), (.str (Str.ofString "/claim/cut.py") 701)].toArray), [].toArray⟩
noncomputable def o383 (P : Params) : Obj := ⟨(.type "function"), none, (fD (ms 29 5) (Str.ofString "Markers.inserted") .none (.str (Str.ofString "emacs.markers") 584) (.ref 382)), [].toArray⟩
noncomputable def o384 (P : Params) : Obj := ⟨(.type "tuple"), none, (.seq [].toArray 0), [].toArray⟩
noncomputable def o385 (P : Params) : Obj := ⟨.none, none, (.fields [].toArray), [].toArray⟩
noncomputable def o386 (P : Params) : Obj := ⟨(.type "tuple"), none, (.seq [(.str (Str.ofString "self") 706), (.str (Str.ofString "start") 707), (.str (Str.ofString "end") 708), (.str (Str.ofString "number") 709), (.str (Str.ofString "marker") 710)].toArray 0), [].toArray⟩
noncomputable def o387 (P : Params) : Obj := ⟨(.type "tuple"), none, (.seq [].toArray 0), [].toArray⟩
noncomputable def o388 (P : Params) : Obj := ⟨.none, none, (fZ (ms 29 6) (Str.ofString "Markers.deleted")), [].toArray⟩
noncomputable def o389 (P : Params) : Obj := ⟨(.type "code"), none, (.fields [(.str (Str.ofString "deleted") 703), (.str (Str.ofString "Markers.deleted") 704), (.str (Str.ofString "/claim/cut.py") 705), (.int 266 0), (.int 3 0), (.int 0 0), (.int 0 0), (.int 3 0), (.ref 384), (.bool true), (.int 181 0), (.ref 385), .none, (.ref 386), (.ref 387), (.ref 388), (.int 711 0), (.int 266 0), (.str (Str.ofString "/claim/cut.py") 712)].toArray), [].toArray⟩
noncomputable def o390 (P : Params) : Obj := ⟨(.type "function"), none, (fD (ms 29 6) (Str.ofString "Markers.deleted") .none (.str (Str.ofString "emacs.markers") 584) (.ref 389)), [].toArray⟩
noncomputable def o391 (P : Params) : Obj := ⟨(.type "tuple"), none, (.seq [].toArray 0), [].toArray⟩
noncomputable def o392 (P : Params) : Obj := ⟨.none, none, (.fields [].toArray), [].toArray⟩
noncomputable def o393 (P : Params) : Obj := ⟨(.type "tuple"), none, (.seq [(.str (Str.ofString "self") 717), (.str (Str.ofString "start") 718), (.str (Str.ofString "end") 719), (.str (Str.ofString "many") 720), (.str (Str.ofString "number") 721), (.str (Str.ofString "marker") 722)].toArray 0), [].toArray⟩
noncomputable def o394 (P : Params) : Obj := ⟨(.type "tuple"), none, (.seq [].toArray 0), [].toArray⟩
noncomputable def o395 (P : Params) : Obj := ⟨.none, none, (fZ (ms 29 7) (Str.ofString "Markers.replaced")), [].toArray⟩
noncomputable def o396 (P : Params) : Obj := ⟨(.type "code"), none, (.fields [(.str (Str.ofString "replaced") 714), (.str (Str.ofString "Markers.replaced") 715), (.str (Str.ofString "/claim/cut.py") 716), (.int 274 0), (.int 4 0), (.int 0 0), (.int 0 0), (.int 3 0), (.ref 391), (.bool true), (.int 181 0), (.ref 392), .none, (.ref 393), (.ref 394), (.ref 395), (.int 723 0), (.int 274 0), (.str (Str.ofString "/claim/cut.py") 724)].toArray), [].toArray⟩
noncomputable def o397 (P : Params) : Obj := ⟨(.type "function"), none, (fD (ms 29 7) (Str.ofString "Markers.replaced") .none (.str (Str.ofString "emacs.markers") 584) (.ref 396)), [].toArray⟩
noncomputable def o398 (P : Params) : Obj := ⟨(.type "tuple"), none, (.seq [(.str (Str.ofString "rows") 726)].toArray 0), [].toArray⟩
noncomputable def o399 (P : Params) : Obj := ⟨(.type "dict"), none, (.dict [D P (Str.ofString "__module__") 644 (.str (Str.ofString "emacs.markers") 584), D P (Str.ofString "__firstlineno__") 648 (.int 237 647), D P (Str.ofString "__init__") 655 (.ref 348), D P (Str.ofString "numbers") 662 (.ref 355), D P (Str.ofString "put") 671 (.ref 362), D P (Str.ofString "drop") 679 (.ref 369), D P (Str.ofString "within") 690 (.ref 376), D P (Str.ofString "inserted") 702 (.ref 383), D P (Str.ofString "deleted") 713 (.ref 390), D P (Str.ofString "replaced") 725 (.ref 397), D P (Str.ofString "__static_attributes__") 727 (.ref 398), D P (Str.ofString "__dict__") 729 (.ref 401), D P (Str.ofString "__weakref__") 731 (.ref 402), D P (Str.ofString "__doc__") 732 .none].toArray 4), [].toArray⟩
noncomputable def o400 (P : Params) : Obj := ⟨(.type "type"), none, (cD (Str.ofString "Markers") [(.type "object")] [(.ref 400), (.type "object")] 399 (Str.ofString "Markers") []), [none, none, (some (.str (Str.ofString "Markers") 637)), (some (.str (Str.ofString "Markers") 645)), (some (.builtin "object.__new__")), (some (.bool true))].toArray⟩
noncomputable def o401 (P : Params) : Obj := ⟨(.type "getset_descriptor"), none, (.fields [(.str (Str.ofString "__dict__") 728), (.ref 400), (.builtin "function.__dict__"), (.builtin "function.__dict__#set")].toArray), [].toArray⟩
noncomputable def o402 (P : Params) : Obj := ⟨(.type "getset_descriptor"), none, (.fields [(.str (Str.ofString "__weakref__") 730), (.ref 400), (.builtin "ExceptionGroup.__weakref__"), .none].toArray), [].toArray⟩
noncomputable def o403 (P : Params) : Obj := ⟨(.type "super"), none, (.fields [(.ref 400), (.ref 400), (.ref 400)].toArray), [].toArray⟩
noncomputable def o404 (P : Params) : Obj := ⟨(.type "builtin_function_or_method"), none, (.fields [(.builtin "object.__init_subclass__"), (.ref 400)].toArray), [].toArray⟩
noncomputable def t4 (P : Params) : BT := (N (PySem.W.boot_o_0 P) (N (PySem.W.boot_o_1 P) (N (o3_4 P) (N (PySem.W.boot_o_7 P) (N (o15 P) (N (o31 P) (N (o63 P) (N (o127 P) (N (o255 P) Z Z) (N (o383 P) Z Z)) (N (o191 P) (N (o319 P) Z Z) Z)) (N (o95 P) (N (o159 P) (N (o287 P) Z Z) Z) (N (o223 P) (N (o351 P) Z Z) Z))) (N (o47 P) (N (o79 P) (N (o143 P) (N (o271 P) Z Z) (N (o399 P) Z Z)) (N (o207 P) (N (o335 P) Z Z) Z)) (N (o111 P) (N (o175 P) (N (o303 P) Z Z) Z) (N (o239 P) (N (o367 P) Z Z) Z)))) (N (o23 P) (N (o39 P) (N (o71 P) (N (o135 P) (N (o263 P) Z Z) (N (o391 P) Z Z)) (N (o199 P) (N (o327 P) Z Z) Z)) (N (o103 P) (N (o167 P) (N (o295 P) Z Z) Z) (N (o231 P) (N (o359 P) Z Z) Z))) (N (o55 P) (N (o87 P) (N (o151 P) (N (o279 P) Z Z) Z) (N (o215 P) (N (o343 P) Z Z) Z)) (N (o119 P) (N (o183 P) (N (o311 P) Z Z) Z) (N (o247 P) (N (o375 P) Z Z) Z))))) (N (o11 P) (N (o19 P) (N (o35 P) (N (o67 P) (N (o131 P) (N (o259 P) Z Z) (N (o387 P) Z Z)) (N (o195 P) (N (o323 P) Z Z) Z)) (N (o99 P) (N (o163 P) (N (o291 P) Z Z) Z) (N (o227 P) (N (o355 P) Z Z) Z))) (N (o51 P) (N (o83 P) (N (o147 P) (N (o275 P) Z Z) (N (o403 P) Z Z)) (N (o211 P) (N (o339 P) Z Z) Z)) (N (o115 P) (N (o179 P) (N (o307 P) Z Z) Z) (N (o243 P) (N (o371 P) Z Z) Z)))) (N (o27 P) (N (o43 P) (N (o75 P) (N (o139 P) (N (o267 P) Z Z) (N (o395 P) Z Z)) (N (o203 P) (N (o331 P) Z Z) Z)) (N (o107 P) (N (o171 P) (N (o299 P) Z Z) Z) (N (o235 P) (N (o363 P) Z Z) Z))) (N (o59 P) (N (o91 P) (N (o155 P) (N (o283 P) Z Z) Z) (N (o219 P) (N (o347 P) Z Z) Z)) (N (o123 P) (N (o187 P) (N (o315 P) Z Z) Z) (N (o251 P) (N (o379 P) Z Z) Z)))))) (N (PySem.W.boot_o_5 P) (N (PySem.W.boot_o_9 P) (N (o17 P) (N (o33 P) (N (o65 P) (N (o129 P) (N (o257 P) Z Z) (N (o385 P) Z Z)) (N (o193 P) (N (o321 P) Z Z) Z)) (N (o97 P) (N (o161 P) (N (o289 P) Z Z) Z) (N (o225 P) (N (o353 P) Z Z) Z))) (N (o49 P) (N (o81 P) (N (o145 P) (N (o273 P) Z Z) (N (o401 P) Z Z)) (N (o209 P) (N (o337 P) Z Z) Z)) (N (o113 P) (N (o177 P) (N (o305 P) Z Z) Z) (N (o241 P) (N (o369 P) Z Z) Z)))) (N (o25 P) (N (o41 P) (N (o73 P) (N (o137 P) (N (o265 P) Z Z) (N (o393 P) Z Z)) (N (o201 P) (N (o329 P) Z Z) Z)) (N (o105 P) (N (o169 P) (N (o297 P) Z Z) Z) (N (o233 P) (N (o361 P) Z Z) Z))) (N (o57 P) (N (o89 P) (N (o153 P) (N (o281 P) Z Z) Z) (N (o217 P) (N (o345 P) Z Z) Z)) (N (o121 P) (N (o185 P) (N (o313 P) Z Z) Z) (N (o249 P) (N (o377 P) Z Z) Z))))) (N (o13 P) (N (o21 P) (N (o37 P) (N (o69 P) (N (o133 P) (N (o261 P) Z Z) (N (o389 P) Z Z)) (N (o197 P) (N (o325 P) Z Z) Z)) (N (o101 P) (N (o165 P) (N (o293 P) Z Z) Z) (N (o229 P) (N (o357 P) Z Z) Z))) (N (o53 P) (N (o85 P) (N (o149 P) (N (o277 P) Z Z) Z) (N (o213 P) (N (o341 P) Z Z) Z)) (N (o117 P) (N (o181 P) (N (o309 P) Z Z) Z) (N (o245 P) (N (o373 P) Z Z) Z)))) (N (o29 P) (N (o45 P) (N (o77 P) (N (o141 P) (N (o269 P) Z Z) (N (o397 P) Z Z)) (N (o205 P) (N (o333 P) Z Z) Z)) (N (o109 P) (N (o173 P) (N (o301 P) Z Z) Z) (N (o237 P) (N (o365 P) Z Z) Z))) (N (o61 P) (N (o93 P) (N (o157 P) (N (o285 P) Z Z) Z) (N (o221 P) (N (o349 P) Z Z) Z)) (N (o125 P) (N (o189 P) (N (o317 P) Z Z) Z) (N (o253 P) (N (o381 P) Z Z) Z))))))) (N (o2_1 P) (N (PySem.W.boot_o_4 P) (N (PySem.W.boot_o_8 P) (N (o16 P) (N (o32 P) (N (o64 P) (N (o128 P) (N (o256 P) Z Z) (N (o384 P) Z Z)) (N (o192 P) (N (o320 P) Z Z) Z)) (N (o96 P) (N (o160 P) (N (o288 P) Z Z) Z) (N (o224 P) (N (o352 P) Z Z) Z))) (N (o48 P) (N (o80 P) (N (o144 P) (N (o272 P) Z Z) (N (o400 P) Z Z)) (N (o208 P) (N (o336 P) Z Z) Z)) (N (o112 P) (N (o176 P) (N (o304 P) Z Z) Z) (N (o240 P) (N (o368 P) Z Z) Z)))) (N (o24 P) (N (o40 P) (N (o72 P) (N (o136 P) (N (o264 P) Z Z) (N (o392 P) Z Z)) (N (o200 P) (N (o328 P) Z Z) Z)) (N (o104 P) (N (o168 P) (N (o296 P) Z Z) Z) (N (o232 P) (N (o360 P) Z Z) Z))) (N (o56 P) (N (o88 P) (N (o152 P) (N (o280 P) Z Z) Z) (N (o216 P) (N (o344 P) Z Z) Z)) (N (o120 P) (N (o184 P) (N (o312 P) Z Z) Z) (N (o248 P) (N (o376 P) Z Z) Z))))) (N (o12_4 P) (N (o20 P) (N (o36 P) (N (o68 P) (N (o132 P) (N (o260 P) Z Z) (N (o388 P) Z Z)) (N (o196 P) (N (o324 P) Z Z) Z)) (N (o100 P) (N (o164 P) (N (o292 P) Z Z) Z) (N (o228 P) (N (o356 P) Z Z) Z))) (N (o52 P) (N (o84 P) (N (o148 P) (N (o276 P) Z Z) (N (o404 P) Z Z)) (N (o212 P) (N (o340 P) Z Z) Z)) (N (o116 P) (N (o180 P) (N (o308 P) Z Z) Z) (N (o244 P) (N (o372 P) Z Z) Z)))) (N (o28 P) (N (o44 P) (N (o76 P) (N (o140 P) (N (o268 P) Z Z) (N (o396 P) Z Z)) (N (o204 P) (N (o332 P) Z Z) Z)) (N (o108 P) (N (o172 P) (N (o300 P) Z Z) Z) (N (o236 P) (N (o364 P) Z Z) Z))) (N (o60 P) (N (o92 P) (N (o156 P) (N (o284 P) Z Z) Z) (N (o220 P) (N (o348 P) Z Z) Z)) (N (o124 P) (N (o188 P) (N (o316 P) Z Z) Z) (N (o252 P) (N (o380 P) Z Z) Z)))))) (N (PySem.W.boot_o_6 P) (N (PySem.W.boot_o_10 P) (N (o18 P) (N (o34 P) (N (o66 P) (N (o130 P) (N (o258 P) Z Z) (N (o386 P) Z Z)) (N (o194 P) (N (o322 P) Z Z) Z)) (N (o98 P) (N (o162 P) (N (o290 P) Z Z) Z) (N (o226 P) (N (o354 P) Z Z) Z))) (N (o50 P) (N (o82 P) (N (o146 P) (N (o274 P) Z Z) (N (o402 P) Z Z)) (N (o210 P) (N (o338 P) Z Z) Z)) (N (o114 P) (N (o178 P) (N (o306 P) Z Z) Z) (N (o242 P) (N (o370 P) Z Z) Z)))) (N (o26 P) (N (o42 P) (N (o74 P) (N (o138 P) (N (o266 P) Z Z) (N (o394 P) Z Z)) (N (o202 P) (N (o330 P) Z Z) Z)) (N (o106 P) (N (o170 P) (N (o298 P) Z Z) Z) (N (o234 P) (N (o362 P) Z Z) Z))) (N (o58 P) (N (o90 P) (N (o154 P) (N (o282 P) Z Z) Z) (N (o218 P) (N (o346 P) Z Z) Z)) (N (o122 P) (N (o186 P) (N (o314 P) Z Z) Z) (N (o250 P) (N (o378 P) Z Z) Z))))) (N (o14 P) (N (o22 P) (N (o38 P) (N (o70 P) (N (o134 P) (N (o262 P) Z Z) (N (o390 P) Z Z)) (N (o198 P) (N (o326 P) Z Z) Z)) (N (o102 P) (N (o166 P) (N (o294 P) Z Z) Z) (N (o230 P) (N (o358 P) Z Z) Z))) (N (o54 P) (N (o86 P) (N (o150 P) (N (o278 P) Z Z) Z) (N (o214 P) (N (o342 P) Z Z) Z)) (N (o118 P) (N (o182 P) (N (o310 P) Z Z) Z) (N (o246 P) (N (o374 P) Z Z) Z)))) (N (o30 P) (N (o46 P) (N (o78 P) (N (o142 P) (N (o270 P) Z Z) (N (o398 P) Z Z)) (N (o206 P) (N (o334 P) Z Z) Z)) (N (o110 P) (N (o174 P) (N (o302 P) Z Z) Z) (N (o238 P) (N (o366 P) Z Z) Z))) (N (o62 P) (N (o94 P) (N (o158 P) (N (o286 P) Z Z) Z) (N (o222 P) (N (o350 P) Z Z) Z)) (N (o126 P) (N (o190 P) (N (o318 P) Z Z) Z) (N (o254 P) (N (o382 P) Z Z) Z))))))))
-- boundary 4: upto 31, objs 405, toks 737, pos ⟨281, 0, 281, 8⟩, steps 468
noncomputable def o3_5 (P : Params) : Obj := ⟨(.type "dict"), none, (.dict [D P (Str.ofString "__name__") 165 (.str (Str.ofString "law_pq0288_01") 905), D P (Str.ofString "__doc__") 166 .none, D P (Str.ofString "__package__") 167 .none, D P (Str.ofString "__loader__") 168 (.builtin "__main__.__loader__#opaque"), D P (Str.ofString "__spec__") 169 .none, D P (Str.ofString "__annotations__") 170 (.ref 6), D P (Str.ofString "__builtins__") 171 (.ref 4), D P (Str.ofString "__file__") 173 (.str (Str.ofString "/claim/cut.py") 172), D P (Str.ofString "__cached__") 174 .none, D P (Str.ofString "_wall") 193 (.ref 21), D P (Str.ofString "LispSignal") 226 (.ref 38), D P (Str.ofString "LONGEST") 232 (.int 4194304 231), D P (Str.ofString "need_writable") 239 (.ref 48), D P (Str.ofString "need_room") 247 (.ref 55), D P (Str.ofString "reached") 258 (.ref 62), D P (Str.ofString "tell_ahead") 268 (.ref 69), D P (Str.ofString "tell_behind") 279 (.ref 76), D P (Str.ofString "text_out") 289 (.ref 83), D P (Str.ofString "text_in") 298 (.ref 90), D P (Str.ofString "hung_out") 307 (.ref 97), D P (Str.ofString "hung_in") 317 (.ref 104), D P (Str.ofString "put_in") 328 (.ref 111), D P (Str.ofString "insert_at") 338 (.ref 119), D P (Str.ofString "insert") 347 (.ref 127), D P (Str.ofString "delete") 359 (.ref 134), D P (Str.ofString "rows_moved") 365 (.ref 139), D P (Str.ofString "replace") 380 (.ref 147), D P (Str.ofString "change_sign") 389 (.ref 154), D P (Str.ofString "subst_codes") 404 (.ref 161), D P (Str.ofString "transpose_regions") 419 (.ref 168), D P (Str.ofString "GapText") 539 (.ref 255), D P (Str.ofString "Opaque") 583 (.ref 290), D P (Str.ofString "Marker") 636 (.ref 332), D P (Str.ofString "Markers") 734 (.ref 400), D P (Str.ofString "Buffer") 873 (.ref 506), D P (Str.ofString "narrow") 886 (.ref 515), D P (Str.ofString "widen") 893 (.ref 522), D P (Str.ofString "set_marker") 904 (.ref 529), D P (Str.ofString "_law_deck") 912 (.ref 534), D P (Str.ofString "_law_draw") 921 (.ref 541), D P (Str.ofString "_law_edit") 927 (.ref 546), D P (Str.ofString "_law_order_kept") 938 (.ref 553), D P (Str.ofString "law") 944 (.ref 558)].toArray 43), [].toArray⟩
noncomputable def o12_5 (P : Params) : Obj := ⟨.none, none, (.fields [(.int 1 0), (.int 0 0), (.ref 20), (.int 5 0), (.int 0 0), (.ref 27), (.int 12 0), (.int 0 0), (.ref 47), (.int 15 0), (.int 0 0), (.ref 54), (.int 18 0), (.int 0 0), (.ref 61), (.int 23 0), (.int 0 0), (.ref 68), (.int 26 0), (.int 0 0), (.ref 75), (.int 30 0), (.int 0 0), (.ref 82), (.int 38 0), (.int 0 0), (.ref 89), (.int 45 0), (.int 0 0), (.ref 96), (.int 50 0), (.int 0 0), (.ref 103), (.int 55 0), (.int 0 0), (.ref 110), (.int 68 0), (.int 0 0), (.ref 118), (.int 70 0), (.int 0 0), (.ref 126), (.int 72 0), (.int 0 0), (.ref 133), (.int 83 0), (.int 0 0), (.ref 138), (.int 88 0), (.int 0 0), (.ref 146), (.int 110 0), (.int 0 0), (.ref 153), (.int 119 0), (.int 0 0), (.ref 160), (.int 127 0), (.int 0 0), (.ref 167), (.int 144 0), (.int 0 0), (.ref 174), (.int 210 0), (.int 0 0), (.ref 265), (.int 221 0), (.int 0 0), (.ref 300), (.int 237 0), (.int 0 0), (.ref 340), (.int 282 0), (.int 0 0), (.ref 410), (.int 347 0), (.int 0 0), (.ref 514), (.int 353 0), (.int 0 0), (.ref 521), (.int 356 0), (.int 0 0), (.ref 528), (.int 365 0), (.int 0 0), (.ref 533), (.int 367 0), (.int 0 0), (.ref 540), (.int 375 0), (.int 0 0), (.ref 545), (.int 397 0), (.int 0 0), (.ref 552), (.int 404 0), (.int 0 0), (.ref 557)].toArray), [].toArray⟩
noncomputable def o290_5 (P : Params) : Obj := ⟨(.type "type"), none, (cD (Str.ofString "Opaque") [(.type "object")] [(.ref 290), (.type "object")] 289 (Str.ofString "Opaque") [(.ref 332), (.ref 506)]), [none, none, (some (.str (Str.ofString "Opaque") 542)), (some (.str (Str.ofString "Opaque") 550)), (some (.builtin "object.__new__")), (some (.bool true))].toArray⟩
noncomputable def o405 (P : Params) : Obj := ⟨(.type "tuple"), none, (.seq [(.ref 290)].toArray 0), [].toArray⟩
noncomputable def o406 (P : Params) : Obj := ⟨(.type "builtin_function_or_method"), none, (.fields [(.builtin "type.__prepare__"), (.type "type")].toArray), [].toArray⟩
noncomputable def o407 (P : Params) : Obj := ⟨(.type "dict"), none, (.dict [D P (Str.ofString "__module__") 744 (.str (Str.ofString "emacs.buffer") 735), D P (Str.ofString "__qualname__") 746 (.str (Str.ofString "Buffer") 745), D P (Str.ofString "__firstlineno__") 748 (.int 282 747), D P (Str.ofString "__init__") 759 (.ref 419), D P (Str.ofString "shown") 766 (.ref 426), D P (Str.ofString "kind") 773 (.ref 433), D P (Str.ofString "begin") 780 (.ref 440), D P (Str.ofString "end") 787 (.ref 447), D P (Str.ofString "size") 794 (.ref 454), D P (Str.ofString "code_at") 802 (.ref 461), D P (Str.ofString "codes") 811 (.ref 468), D P (Str.ofString "goto") 819 (.ref 475), D P (Str.ofString "tick") 826 (.ref 482), D P (Str.ofString "is_modified") 833 (.ref 489), D P (Str.ofString "set_modified") 841 (.ref 496), D P (Str.ofString "touch") 849 (.ref 503), D P (Str.ofString "__static_attributes__") 870 (.ref 504)].toArray 17), [].toArray⟩
noncomputable def o408 (P : Params) : Obj := ⟨(.type "tuple"), none, (.seq [].toArray 0), [].toArray⟩
noncomputable def o409 (P : Params) : Obj := ⟨.none, none, (.fields [(.int 284 0), (.int 4 0), (.ref 418), (.int 306 0), (.int 4 0), (.ref 425), (.int 309 0), (.int 4 0), (.ref 432), (.int 312 0), (.int 4 0), (.ref 439), (.int 315 0), (.int 4 0), (.ref 446), (.int 318 0), (.int 4 0), (.ref 453), (.int 321 0), (.int 4 0), (.ref 460), (.int 326 0), (.int 4 0), (.ref 467), (.int 329 0), (.int 4 0), (.ref 474), (.int 333 0), (.int 4 0), (.ref 481), (.int 336 0), (.int 4 0), (.ref 488), (.int 339 0), (.int 4 0), (.ref 495), (.int 342 0), (.int 4 0), (.ref 502)].toArray), [].toArray⟩
noncomputable def o410 (P : Params) : Obj := ⟨(.type "code"), none, (.fields [(.str (Str.ofString "Buffer") 739), (.str (Str.ofString "Buffer") 740), (.str (Str.ofString "/claim/cut.py") 741), (.int 282 0), (.int 0 0), (.int 0 0), (.int 0 0), (.int 0 0), (.ref 408), (.bool false), (.int 181 0), (.ref 409), .none, .none, .none, .none, (.int 742 0), (.int 282 0), (.str (Str.ofString "/claim/cut.py") 743)].toArray), [].toArray⟩
noncomputable def o411 (P : Params) : Obj := ⟨(.type "frame"), none, .plain, [(some (.ref 410)), (some (.ref 3)), (some (.ref 407)), none, (some (.str (Str.ofString "emacs.buffer") 735)), none, (some (.ref 0))].toArray⟩
noncomputable def o412 (P : Params) : Obj := ⟨(.type "tuple"), none, (.seq [(.int 8 749)].toArray 0), [].toArray⟩
noncomputable def o413 (P : Params) : Obj := ⟨(.type "tuple"), none, (.seq [].toArray 0), [].toArray⟩
noncomputable def o414 (P : Params) : Obj := ⟨.none, none, (.fields [].toArray), [].toArray⟩
noncomputable def o415 (P : Params) : Obj := ⟨(.type "tuple"), none, (.seq [(.str (Str.ofString "self") 753), (.str (Str.ofString "number") 754), (.str (Str.ofString "name") 755), (.str (Str.ofString "room") 756)].toArray 0), [].toArray⟩
noncomputable def o416 (P : Params) : Obj := ⟨(.type "tuple"), none, (.seq [].toArray 0), [].toArray⟩
noncomputable def o417 (P : Params) : Obj := ⟨.none, none, (fZ (ms 31 0) (Str.ofString "Buffer.__init__")), [].toArray⟩
noncomputable def o418 (P : Params) : Obj := ⟨(.type "code"), none, (.fields [(.str (Str.ofString "__init__") 750), (.str (Str.ofString "Buffer.__init__") 751), (.str (Str.ofString "/claim/cut.py") 752), (.int 284 0), (.int 4 0), (.int 0 0), (.int 0 0), (.int 3 0), (.ref 413), (.bool true), (.int 181 0), (.ref 414), .none, (.ref 415), (.ref 416), (.ref 417), (.int 757 0), (.int 284 0), (.str (Str.ofString "/claim/cut.py") 758)].toArray), [].toArray⟩
noncomputable def o419 (P : Params) : Obj := ⟨(.type "function"), none, (fD (ms 31 0) (Str.ofString "Buffer.__init__") (.ref 412) (.str (Str.ofString "emacs.buffer") 735) (.ref 418)), [].toArray⟩
noncomputable def o420 (P : Params) : Obj := ⟨(.type "tuple"), none, (.seq [].toArray 0), [].toArray⟩
noncomputable def o421 (P : Params) : Obj := ⟨.none, none, (.fields [].toArray), [].toArray⟩
noncomputable def o422 (P : Params) : Obj := ⟨(.type "tuple"), none, (.seq [(.str (Str.ofString "self") 763)].toArray 0), [].toArray⟩
noncomputable def o423 (P : Params) : Obj := ⟨(.type "tuple"), none, (.seq [].toArray 0), [].toArray⟩
noncomputable def o424 (P : Params) : Obj := ⟨.none, none, (fZ (ms 31 1) (Str.ofString "Buffer.shown")), [].toArray⟩
noncomputable def o425 (P : Params) : Obj := ⟨(.type "code"), none, (.fields [(.str (Str.ofString "shown") 760), (.str (Str.ofString "Buffer.shown") 761), (.str (Str.ofString "/claim/cut.py") 762), (.int 306 0), (.int 1 0), (.int 0 0), (.int 0 0), (.int 3 0), (.ref 420), (.bool true), (.int 181 0), (.ref 421), .none, (.ref 422), (.ref 423), (.ref 424), (.int 764 0), (.int 306 0), (.str (Str.ofString "/claim/cut.py") 765)].toArray), [].toArray⟩
noncomputable def o426 (P : Params) : Obj := ⟨(.type "function"), none, (fD (ms 31 1) (Str.ofString "Buffer.shown") .none (.str (Str.ofString "emacs.buffer") 735) (.ref 425)), [].toArray⟩
noncomputable def o427 (P : Params) : Obj := ⟨(.type "tuple"), none, (.seq [].toArray 0), [].toArray⟩
noncomputable def o428 (P : Params) : Obj := ⟨.none, none, (.fields [].toArray), [].toArray⟩
noncomputable def o429 (P : Params) : Obj := ⟨(.type "tuple"), none, (.seq [(.str (Str.ofString "self") 770)].toArray 0), [].toArray⟩
noncomputable def o430 (P : Params) : Obj := ⟨(.type "tuple"), none, (.seq [].toArray 0), [].toArray⟩
noncomputable def o431 (P : Params) : Obj := ⟨.none, none, (fZ (ms 31 2) (Str.ofString "Buffer.kind")), [].toArray⟩
noncomputable def o432 (P : Params) : Obj := ⟨(.type "code"), none, (.fields [(.str (Str.ofString "kind") 767), (.str (Str.ofString "Buffer.kind") 768), (.str (Str.ofString "/claim/cut.py") 769), (.int 309 0), (.int 1 0), (.int 0 0), (.int 0 0), (.int 3 0), (.ref 427), (.bool true), (.int 181 0), (.ref 428), .none, (.ref 429), (.ref 430), (.ref 431), (.int 771 0), (.int 309 0), (.str (Str.ofString "/claim/cut.py") 772)].toArray), [].toArray⟩
noncomputable def o433 (P : Params) : Obj := ⟨(.type "function"), none, (fD (ms 31 2) (Str.ofString "Buffer.kind") .none (.str (Str.ofString "emacs.buffer") 735) (.ref 432)), [].toArray⟩
noncomputable def o434 (P : Params) : Obj := ⟨(.type "tuple"), none, (.seq [].toArray 0), [].toArray⟩
noncomputable def o435 (P : Params) : Obj := ⟨.none, none, (.fields [].toArray), [].toArray⟩
noncomputable def o436 (P : Params) : Obj := ⟨(.type "tuple"), none, (.seq [(.str (Str.ofString "self") 777)].toArray 0), [].toArray⟩
noncomputable def o437 (P : Params) : Obj := ⟨(.type "tuple"), none, (.seq [].toArray 0), [].toArray⟩
noncomputable def o438 (P : Params) : Obj := ⟨.none, none, (fZ (ms 31 3) (Str.ofString "Buffer.begin")), [].toArray⟩
noncomputable def o439 (P : Params) : Obj := ⟨(.type "code"), none, (.fields [(.str (Str.ofString "begin") 774), (.str (Str.ofString "Buffer.begin") 775), (.str (Str.ofString "/claim/cut.py") 776), (.int 312 0), (.int 1 0), (.int 0 0), (.int 0 0), (.int 3 0), (.ref 434), (.bool true), (.int 181 0), (.ref 435), .none, (.ref 436), (.ref 437), (.ref 438), (.int 778 0), (.int 312 0), (.str (Str.ofString "/claim/cut.py") 779)].toArray), [].toArray⟩
noncomputable def o440 (P : Params) : Obj := ⟨(.type "function"), none, (fD (ms 31 3) (Str.ofString "Buffer.begin") .none (.str (Str.ofString "emacs.buffer") 735) (.ref 439)), [].toArray⟩
noncomputable def o441 (P : Params) : Obj := ⟨(.type "tuple"), none, (.seq [].toArray 0), [].toArray⟩
noncomputable def o442 (P : Params) : Obj := ⟨.none, none, (.fields [].toArray), [].toArray⟩
noncomputable def o443 (P : Params) : Obj := ⟨(.type "tuple"), none, (.seq [(.str (Str.ofString "self") 784)].toArray 0), [].toArray⟩
noncomputable def o444 (P : Params) : Obj := ⟨(.type "tuple"), none, (.seq [].toArray 0), [].toArray⟩
noncomputable def o445 (P : Params) : Obj := ⟨.none, none, (fZ (ms 31 4) (Str.ofString "Buffer.end")), [].toArray⟩
noncomputable def o446 (P : Params) : Obj := ⟨(.type "code"), none, (.fields [(.str (Str.ofString "end") 781), (.str (Str.ofString "Buffer.end") 782), (.str (Str.ofString "/claim/cut.py") 783), (.int 315 0), (.int 1 0), (.int 0 0), (.int 0 0), (.int 3 0), (.ref 441), (.bool true), (.int 181 0), (.ref 442), .none, (.ref 443), (.ref 444), (.ref 445), (.int 785 0), (.int 315 0), (.str (Str.ofString "/claim/cut.py") 786)].toArray), [].toArray⟩
noncomputable def o447 (P : Params) : Obj := ⟨(.type "function"), none, (fD (ms 31 4) (Str.ofString "Buffer.end") .none (.str (Str.ofString "emacs.buffer") 735) (.ref 446)), [].toArray⟩
noncomputable def o448 (P : Params) : Obj := ⟨(.type "tuple"), none, (.seq [].toArray 0), [].toArray⟩
noncomputable def o449 (P : Params) : Obj := ⟨.none, none, (.fields [].toArray), [].toArray⟩
noncomputable def o450 (P : Params) : Obj := ⟨(.type "tuple"), none, (.seq [(.str (Str.ofString "self") 791)].toArray 0), [].toArray⟩
noncomputable def o451 (P : Params) : Obj := ⟨(.type "tuple"), none, (.seq [].toArray 0), [].toArray⟩
noncomputable def o452 (P : Params) : Obj := ⟨.none, none, (fZ (ms 31 5) (Str.ofString "Buffer.size")), [].toArray⟩
noncomputable def o453 (P : Params) : Obj := ⟨(.type "code"), none, (.fields [(.str (Str.ofString "size") 788), (.str (Str.ofString "Buffer.size") 789), (.str (Str.ofString "/claim/cut.py") 790), (.int 318 0), (.int 1 0), (.int 0 0), (.int 0 0), (.int 3 0), (.ref 448), (.bool true), (.int 181 0), (.ref 449), .none, (.ref 450), (.ref 451), (.ref 452), (.int 792 0), (.int 318 0), (.str (Str.ofString "/claim/cut.py") 793)].toArray), [].toArray⟩
noncomputable def o454 (P : Params) : Obj := ⟨(.type "function"), none, (fD (ms 31 5) (Str.ofString "Buffer.size") .none (.str (Str.ofString "emacs.buffer") 735) (.ref 453)), [].toArray⟩
noncomputable def o455 (P : Params) : Obj := ⟨(.type "tuple"), none, (.seq [].toArray 0), [].toArray⟩
noncomputable def o456 (P : Params) : Obj := ⟨.none, none, (.fields [].toArray), [].toArray⟩
noncomputable def o457 (P : Params) : Obj := ⟨(.type "tuple"), none, (.seq [(.str (Str.ofString "self") 798), (.str (Str.ofString "place") 799)].toArray 0), [].toArray⟩
noncomputable def o458 (P : Params) : Obj := ⟨(.type "tuple"), none, (.seq [].toArray 0), [].toArray⟩
noncomputable def o459 (P : Params) : Obj := ⟨.none, none, (fZ (ms 31 6) (Str.ofString "Buffer.code_at")), [].toArray⟩
noncomputable def o460 (P : Params) : Obj := ⟨(.type "code"), none, (.fields [(.str (Str.ofString "code_at") 795), (.str (Str.ofString "Buffer.code_at") 796), (.str (Str.ofString "/claim/cut.py") 797), (.int 321 0), (.int 2 0), (.int 0 0), (.int 0 0), (.int 3 0), (.ref 455), (.bool true), (.int 181 0), (.ref 456), .none, (.ref 457), (.ref 458), (.ref 459), (.int 800 0), (.int 321 0), (.str (Str.ofString "/claim/cut.py") 801)].toArray), [].toArray⟩
noncomputable def o461 (P : Params) : Obj := ⟨(.type "function"), none, (fD (ms 31 6) (Str.ofString "Buffer.code_at") .none (.str (Str.ofString "emacs.buffer") 735) (.ref 460)), [].toArray⟩
noncomputable def o462 (P : Params) : Obj := ⟨(.type "tuple"), none, (.seq [].toArray 0), [].toArray⟩
noncomputable def o463 (P : Params) : Obj := ⟨.none, none, (.fields [].toArray), [].toArray⟩
noncomputable def o464 (P : Params) : Obj := ⟨(.type "tuple"), none, (.seq [(.str (Str.ofString "self") 806), (.str (Str.ofString "start") 807), (.str (Str.ofString "end") 808)].toArray 0), [].toArray⟩
noncomputable def o465 (P : Params) : Obj := ⟨(.type "tuple"), none, (.seq [].toArray 0), [].toArray⟩
noncomputable def o466 (P : Params) : Obj := ⟨.none, none, (fZ (ms 31 7) (Str.ofString "Buffer.codes")), [].toArray⟩
noncomputable def o467 (P : Params) : Obj := ⟨(.type "code"), none, (.fields [(.str (Str.ofString "codes") 803), (.str (Str.ofString "Buffer.codes") 804), (.str (Str.ofString "/claim/cut.py") 805), (.int 326 0), (.int 3 0), (.int 0 0), (.int 0 0), (.int 3 0), (.ref 462), (.bool true), (.int 181 0), (.ref 463), .none, (.ref 464), (.ref 465), (.ref 466), (.int 809 0), (.int 326 0), (.str (Str.ofString "/claim/cut.py") 810)].toArray), [].toArray⟩
noncomputable def o468 (P : Params) : Obj := ⟨(.type "function"), none, (fD (ms 31 7) (Str.ofString "Buffer.codes") .none (.str (Str.ofString "emacs.buffer") 735) (.ref 467)), [].toArray⟩
noncomputable def o469 (P : Params) : Obj := ⟨(.type "tuple"), none, (.seq [].toArray 0), [].toArray⟩
noncomputable def o470 (P : Params) : Obj := ⟨.none, none, (.fields [].toArray), [].toArray⟩
noncomputable def o471 (P : Params) : Obj := ⟨(.type "tuple"), none, (.seq [(.str (Str.ofString "self") 815), (.str (Str.ofString "place") 816)].toArray 0), [].toArray⟩
noncomputable def o472 (P : Params) : Obj := ⟨(.type "tuple"), none, (.seq [].toArray 0), [].toArray⟩
noncomputable def o473 (P : Params) : Obj := ⟨.none, none, (fZ (ms 31 8) (Str.ofString "Buffer.goto")), [].toArray⟩
noncomputable def o474 (P : Params) : Obj := ⟨(.type "code"), none, (.fields [(.str (Str.ofString "goto") 812), (.str (Str.ofString "Buffer.goto") 813), (.str (Str.ofString "/claim/cut.py") 814), (.int 329 0), (.int 2 0), (.int 0 0), (.int 0 0), (.int 3 0), (.ref 469), (.bool true), (.int 181 0), (.ref 470), .none, (.ref 471), (.ref 472), (.ref 473), (.int 817 0), (.int 329 0), (.str (Str.ofString "/claim/cut.py") 818)].toArray), [].toArray⟩
noncomputable def o475 (P : Params) : Obj := ⟨(.type "function"), none, (fD (ms 31 8) (Str.ofString "Buffer.goto") .none (.str (Str.ofString "emacs.buffer") 735) (.ref 474)), [].toArray⟩
noncomputable def o476 (P : Params) : Obj := ⟨(.type "tuple"), none, (.seq [].toArray 0), [].toArray⟩
noncomputable def o477 (P : Params) : Obj := ⟨.none, none, (.fields [].toArray), [].toArray⟩
noncomputable def o478 (P : Params) : Obj := ⟨(.type "tuple"), none, (.seq [(.str (Str.ofString "self") 823)].toArray 0), [].toArray⟩
noncomputable def o479 (P : Params) : Obj := ⟨(.type "tuple"), none, (.seq [].toArray 0), [].toArray⟩
noncomputable def o480 (P : Params) : Obj := ⟨.none, none, (fZ (ms 31 9) (Str.ofString "Buffer.tick")), [].toArray⟩
noncomputable def o481 (P : Params) : Obj := ⟨(.type "code"), none, (.fields [(.str (Str.ofString "tick") 820), (.str (Str.ofString "Buffer.tick") 821), (.str (Str.ofString "/claim/cut.py") 822), (.int 333 0), (.int 1 0), (.int 0 0), (.int 0 0), (.int 3 0), (.ref 476), (.bool true), (.int 181 0), (.ref 477), .none, (.ref 478), (.ref 479), (.ref 480), (.int 824 0), (.int 333 0), (.str (Str.ofString "/claim/cut.py") 825)].toArray), [].toArray⟩
noncomputable def o482 (P : Params) : Obj := ⟨(.type "function"), none, (fD (ms 31 9) (Str.ofString "Buffer.tick") .none (.str (Str.ofString "emacs.buffer") 735) (.ref 481)), [].toArray⟩
noncomputable def o483 (P : Params) : Obj := ⟨(.type "tuple"), none, (.seq [].toArray 0), [].toArray⟩
noncomputable def o484 (P : Params) : Obj := ⟨.none, none, (.fields [].toArray), [].toArray⟩
noncomputable def o485 (P : Params) : Obj := ⟨(.type "tuple"), none, (.seq [(.str (Str.ofString "self") 830)].toArray 0), [].toArray⟩
noncomputable def o486 (P : Params) : Obj := ⟨(.type "tuple"), none, (.seq [].toArray 0), [].toArray⟩
noncomputable def o487 (P : Params) : Obj := ⟨.none, none, (fZ (ms 31 10) (Str.ofString "Buffer.is_modified")), [].toArray⟩
noncomputable def o488 (P : Params) : Obj := ⟨(.type "code"), none, (.fields [(.str (Str.ofString "is_modified") 827), (.str (Str.ofString "Buffer.is_modified") 828), (.str (Str.ofString "/claim/cut.py") 829), (.int 336 0), (.int 1 0), (.int 0 0), (.int 0 0), (.int 3 0), (.ref 483), (.bool true), (.int 181 0), (.ref 484), .none, (.ref 485), (.ref 486), (.ref 487), (.int 831 0), (.int 336 0), (.str (Str.ofString "/claim/cut.py") 832)].toArray), [].toArray⟩
noncomputable def o489 (P : Params) : Obj := ⟨(.type "function"), none, (fD (ms 31 10) (Str.ofString "Buffer.is_modified") .none (.str (Str.ofString "emacs.buffer") 735) (.ref 488)), [].toArray⟩
noncomputable def o490 (P : Params) : Obj := ⟨(.type "tuple"), none, (.seq [].toArray 0), [].toArray⟩
noncomputable def o491 (P : Params) : Obj := ⟨.none, none, (.fields [].toArray), [].toArray⟩
noncomputable def o492 (P : Params) : Obj := ⟨(.type "tuple"), none, (.seq [(.str (Str.ofString "self") 837), (.str (Str.ofString "is_so") 838)].toArray 0), [].toArray⟩
noncomputable def o493 (P : Params) : Obj := ⟨(.type "tuple"), none, (.seq [].toArray 0), [].toArray⟩
noncomputable def o494 (P : Params) : Obj := ⟨.none, none, (fZ (ms 31 11) (Str.ofString "Buffer.set_modified")), [].toArray⟩
noncomputable def o495 (P : Params) : Obj := ⟨(.type "code"), none, (.fields [(.str (Str.ofString "set_modified") 834), (.str (Str.ofString "Buffer.set_modified") 835), (.str (Str.ofString "/claim/cut.py") 836), (.int 339 0), (.int 2 0), (.int 0 0), (.int 0 0), (.int 3 0), (.ref 490), (.bool true), (.int 181 0), (.ref 491), .none, (.ref 492), (.ref 493), (.ref 494), (.int 839 0), (.int 339 0), (.str (Str.ofString "/claim/cut.py") 840)].toArray), [].toArray⟩
noncomputable def o496 (P : Params) : Obj := ⟨(.type "function"), none, (fD (ms 31 11) (Str.ofString "Buffer.set_modified") .none (.str (Str.ofString "emacs.buffer") 735) (.ref 495)), [].toArray⟩
noncomputable def o497 (P : Params) : Obj := ⟨(.type "tuple"), none, (.seq [].toArray 0), [].toArray⟩
noncomputable def o498 (P : Params) : Obj := ⟨.none, none, (.fields [].toArray), [].toArray⟩
noncomputable def o499 (P : Params) : Obj := ⟨(.type "tuple"), none, (.seq [(.str (Str.ofString "self") 845), (.str (Str.ofString "are_codes") 846)].toArray 0), [].toArray⟩
noncomputable def o500 (P : Params) : Obj := ⟨(.type "tuple"), none, (.seq [].toArray 0), [].toArray⟩
noncomputable def o501 (P : Params) : Obj := ⟨.none, none, (fZ (ms 31 12) (Str.ofString "Buffer.touch")), [].toArray⟩
noncomputable def o502 (P : Params) : Obj := ⟨(.type "code"), none, (.fields [(.str (Str.ofString "touch") 842), (.str (Str.ofString "Buffer.touch") 843), (.str (Str.ofString "/claim/cut.py") 844), (.int 342 0), (.int 2 0), (.int 0 0), (.int 0 0), (.int 3 0), (.ref 497), (.bool true), (.int 181 0), (.ref 498), .none, (.ref 499), (.ref 500), (.ref 501), (.int 847 0), (.int 342 0), (.str (Str.ofString "/claim/cut.py") 848)].toArray), [].toArray⟩
noncomputable def o503 (P : Params) : Obj := ⟨(.type "function"), none, (fD (ms 31 12) (Str.ofString "Buffer.touch") .none (.str (Str.ofString "emacs.buffer") 735) (.ref 502)), [].toArray⟩
noncomputable def o504 (P : Params) : Obj := ⟨(.type "tuple"), none, (.seq [(.str (Str.ofString "begv") 850), (.str (Str.ofString "codes_ticks") 851), (.str (Str.ofString "file") 852), (.str (Str.ofString "is_live") 853), (.str (Str.ofString "is_read_only") 854), (.str (Str.ofString "listeners") 855), (.str (Str.ofString "locals") 856), (.str (Str.ofString "mark") 857), (.str (Str.ofString "markers") 858), (.str (Str.ofString "name") 859), (.str (Str.ofString "number") 860), (.str (Str.ofString "overlays") 861), (.str (Str.ofString "point") 862), (.str (Str.ofString "props") 863), (.str (Str.ofString "saved_ticks") 864), (.str (Str.ofString "syntax") 865), (.str (Str.ofString "text") 866), (.str (Str.ofString "ticks") 867), (.str (Str.ofString "undo") 868), (.str (Str.ofString "zv") 869)].toArray 0), [].toArray⟩
noncomputable def o505 (P : Params) : Obj := ⟨(.type "dict"), none, (.dict [D P (Str.ofString "__module__") 744 (.str (Str.ofString "emacs.buffer") 735), D P (Str.ofString "__firstlineno__") 748 (.int 282 747), D P (Str.ofString "__init__") 759 (.ref 419), D P (Str.ofString "shown") 766 (.ref 426), D P (Str.ofString "kind") 773 (.ref 433), D P (Str.ofString "begin") 780 (.ref 440), D P (Str.ofString "end") 787 (.ref 447), D P (Str.ofString "size") 794 (.ref 454), D P (Str.ofString "code_at") 802 (.ref 461), D P (Str.ofString "codes") 811 (.ref 468), D P (Str.ofString "goto") 819 (.ref 475), D P (Str.ofString "tick") 826 (.ref 482), D P (Str.ofString "is_modified") 833 (.ref 489), D P (Str.ofString "set_modified") 841 (.ref 496), D P (Str.ofString "touch") 849 (.ref 503), D P (Str.ofString "__static_attributes__") 870 (.ref 504), D P (Str.ofString "__doc__") 871 .none].toArray 2), [].toArray⟩
noncomputable def o506 (P : Params) : Obj := ⟨(.type "type"), none, (cD (Str.ofString "Buffer") [(.ref 290)] [(.ref 506), (.ref 290), (.type "object")] 505 (Str.ofString "Buffer") []), [(some (.ref 405)), none, (some (.str (Str.ofString "Buffer") 737)), (some (.str (Str.ofString "Buffer") 745)), (some (.builtin "object.__new__")), (some (.bool true))].toArray⟩
noncomputable def o507 (P : Params) : Obj := ⟨(.type "super"), none, (.fields [(.ref 506), (.ref 506), (.ref 506)].toArray), [].toArray⟩
noncomputable def o508 (P : Params) : Obj := ⟨(.type "builtin_function_or_method"), none, (.fields [(.builtin "object.__init_subclass__"), (.ref 506)].toArray), [].toArray⟩
noncomputable def o509 (P : Params) : Obj := ⟨(.type "tuple"), none, (.seq [].toArray 0), [].toArray⟩
noncomputable def o510 (P : Params) : Obj := ⟨.none, none, (.fields [].toArray), [].toArray⟩
noncomputable def o511 (P : Params) : Obj := ⟨(.type "tuple"), none, (.seq [(.str (Str.ofString "buffer") 879), (.str (Str.ofString "start") 880), (.str (Str.ofString "end") 881), (.str (Str.ofString "low") 882), (.str (Str.ofString "high") 883)].toArray 0), [].toArray⟩
noncomputable def o512 (P : Params) : Obj := ⟨(.type "tuple"), none, (.seq [].toArray 0), [].toArray⟩
noncomputable def o513 (P : Params) : Obj := ⟨.none, none, (fZ (st 33) (Str.ofString "narrow")), [].toArray⟩
noncomputable def o514 (P : Params) : Obj := ⟨(.type "code"), none, (.fields [(.str (Str.ofString "narrow") 876), (.str (Str.ofString "narrow") 877), (.str (Str.ofString "/claim/cut.py") 878), (.int 347 0), (.int 3 0), (.int 0 0), (.int 0 0), (.int 3 0), (.ref 509), (.bool true), (.int 181 0), (.ref 510), .none, (.ref 511), (.ref 512), (.ref 513), (.int 884 0), (.int 347 0), (.str (Str.ofString "/claim/cut.py") 885)].toArray), [].toArray⟩
noncomputable def o515 (P : Params) : Obj := ⟨(.type "function"), none, (fD (st 33) (Str.ofString "narrow") .none (.str (Str.ofString "emacs.narrowing") 874) (.ref 514)), [].toArray⟩
noncomputable def o516 (P : Params) : Obj := ⟨(.type "tuple"), none, (.seq [].toArray 0), [].toArray⟩
noncomputable def o517 (P : Params) : Obj := ⟨.none, none, (.fields [].toArray), [].toArray⟩
noncomputable def o518 (P : Params) : Obj := ⟨(.type "tuple"), none, (.seq [(.str (Str.ofString "buffer") 890)].toArray 0), [].toArray⟩
noncomputable def o519 (P : Params) : Obj := ⟨(.type "tuple"), none, (.seq [].toArray 0), [].toArray⟩
noncomputable def o520 (P : Params) : Obj := ⟨.none, none, (fZ (st 34) (Str.ofString "widen")), [].toArray⟩
noncomputable def o521 (P : Params) : Obj := ⟨(.type "code"), none, (.fields [(.str (Str.ofString "widen") 887), (.str (Str.ofString "widen") 888), (.str (Str.ofString "/claim/cut.py") 889), (.int 353 0), (.int 1 0), (.int 0 0), (.int 0 0), (.int 3 0), (.ref 516), (.bool true), (.int 181 0), (.ref 517), .none, (.ref 518), (.ref 519), (.ref 520), (.int 891 0), (.int 353 0), (.str (Str.ofString "/claim/cut.py") 892)].toArray), [].toArray⟩
noncomputable def o522 (P : Params) : Obj := ⟨(.type "function"), none, (fD (st 34) (Str.ofString "widen") .none (.str (Str.ofString "emacs.narrowing") 874) (.ref 521)), [].toArray⟩
noncomputable def o523 (P : Params) : Obj := ⟨(.type "tuple"), none, (.seq [].toArray 0), [].toArray⟩
noncomputable def o524 (P : Params) : Obj := ⟨.none, none, (.fields [].toArray), [].toArray⟩
noncomputable def o525 (P : Params) : Obj := ⟨(.type "tuple"), none, (.seq [(.str (Str.ofString "marker") 899), (.str (Str.ofString "buffer") 900), (.str (Str.ofString "place") 901)].toArray 0), [].toArray⟩
noncomputable def o526 (P : Params) : Obj := ⟨(.type "tuple"), none, (.seq [].toArray 0), [].toArray⟩
noncomputable def o527 (P : Params) : Obj := ⟨.none, none, (fZ (st 36) (Str.ofString "set_marker")), [].toArray⟩
noncomputable def o528 (P : Params) : Obj := ⟨(.type "code"), none, (.fields [(.str (Str.ofString "set_marker") 896), (.str (Str.ofString "set_marker") 897), (.str (Str.ofString "/claim/cut.py") 898), (.int 356 0), (.int 3 0), (.int 0 0), (.int 0 0), (.int 3 0), (.ref 523), (.bool true), (.int 181 0), (.ref 524), .none, (.ref 525), (.ref 526), (.ref 527), (.int 902 0), (.int 356 0), (.str (Str.ofString "/claim/cut.py") 903)].toArray), [].toArray⟩
noncomputable def o529 (P : Params) : Obj := ⟨(.type "function"), none, (fD (st 36) (Str.ofString "set_marker") .none (.str (Str.ofString "emacs.placing") 894) (.ref 528)), [].toArray⟩
noncomputable def o530 (P : Params) : Obj := ⟨(.type "tuple"), none, (.seq [].toArray 0), [].toArray⟩
noncomputable def o531 (P : Params) : Obj := ⟨.none, none, (.fields [].toArray), [].toArray⟩
noncomputable def o532 (P : Params) : Obj := ⟨.none, none, (fZ (st 38) (Str.ofString "_law_deck")), [].toArray⟩
noncomputable def o533 (P : Params) : Obj := ⟨(.type "code"), none, (.fields [(.str (Str.ofString "_law_deck") 907), (.str (Str.ofString "_law_deck") 908), (.str (Str.ofString "/claim/cut.py") 909), (.int 365 0), (.int 1 0), (.int 0 0), (.int 0 0), (.int 3 0), (.ref 530), (.bool true), (.int 181 0), (.ref 531), .none, .none, .none, (.ref 532), (.int 910 0), (.int 365 0), (.str (Str.ofString "/claim/cut.py") 911)].toArray), [].toArray⟩
noncomputable def o534 (P : Params) : Obj := ⟨(.type "function"), none, (fD (st 38) (Str.ofString "_law_deck") .none (.str (Str.ofString "law_pq0288_01") 905) (.ref 533)), [].toArray⟩
noncomputable def o535 (P : Params) : Obj := ⟨(.type "tuple"), none, (.seq [].toArray 0), [].toArray⟩
noncomputable def o536 (P : Params) : Obj := ⟨.none, none, (.fields [].toArray), [].toArray⟩
noncomputable def o537 (P : Params) : Obj := ⟨(.type "tuple"), none, (.seq [(.str (Str.ofString "deck") 916), (.str (Str.ofString "many") 917), (.str (Str.ofString "found") 918)].toArray 0), [].toArray⟩
noncomputable def o538 (P : Params) : Obj := ⟨(.type "tuple"), none, (.seq [].toArray 0), [].toArray⟩
noncomputable def o539 (P : Params) : Obj := ⟨.none, none, (fZ (st 39) (Str.ofString "_law_draw")), [].toArray⟩
noncomputable def o540 (P : Params) : Obj := ⟨(.type "code"), none, (.fields [(.str (Str.ofString "_law_draw") 913), (.str (Str.ofString "_law_draw") 914), (.str (Str.ofString "/claim/cut.py") 915), (.int 367 0), (.int 2 0), (.int 0 0), (.int 0 0), (.int 3 0), (.ref 535), (.bool true), (.int 181 0), (.ref 536), .none, (.ref 537), (.ref 538), (.ref 539), (.int 919 0), (.int 367 0), (.str (Str.ofString "/claim/cut.py") 920)].toArray), [].toArray⟩
noncomputable def o541 (P : Params) : Obj := ⟨(.type "function"), none, (fD (st 39) (Str.ofString "_law_draw") .none (.str (Str.ofString "law_pq0288_01") 905) (.ref 540)), [].toArray⟩
noncomputable def o542 (P : Params) : Obj := ⟨(.type "tuple"), none, (.seq [].toArray 0), [].toArray⟩
noncomputable def o543 (P : Params) : Obj := ⟨.none, none, (.fields [].toArray), [].toArray⟩
noncomputable def o544 (P : Params) : Obj := ⟨.none, none, (fZ (st 40) (Str.ofString "_law_edit")), [].toArray⟩
noncomputable def o545 (P : Params) : Obj := ⟨(.type "code"), none, (.fields [(.str (Str.ofString "_law_edit") 922), (.str (Str.ofString "_law_edit") 923), (.str (Str.ofString "/claim/cut.py") 924), (.int 375 0), (.int 3 0), (.int 0 0), (.int 0 0), (.int 3 0), (.ref 542), (.bool true), (.int 181 0), (.ref 543), .none, .none, .none, (.ref 544), (.int 925 0), (.int 375 0), (.str (Str.ofString "/claim/cut.py") 926)].toArray), [].toArray⟩
noncomputable def o546 (P : Params) : Obj := ⟨(.type "function"), none, (fD (st 40) (Str.ofString "_law_edit") .none (.str (Str.ofString "law_pq0288_01") 905) (.ref 545)), [].toArray⟩
noncomputable def o547 (P : Params) : Obj := ⟨(.type "tuple"), none, (.seq [].toArray 0), [].toArray⟩
noncomputable def o548 (P : Params) : Obj := ⟨.none, none, (.fields [].toArray), [].toArray⟩
noncomputable def o549 (P : Params) : Obj := ⟨(.type "tuple"), none, (.seq [(.str (Str.ofString "elder") 931), (.str (Str.ofString "later") 932), (.str (Str.ofString "sorts") 933), (.str (Str.ofString "at") 934), (.str (Str.ofString "to") 935)].toArray 0), [].toArray⟩
noncomputable def o550 (P : Params) : Obj := ⟨(.type "tuple"), none, (.seq [].toArray 0), [].toArray⟩
noncomputable def o551 (P : Params) : Obj := ⟨.none, none, (fZ (st 41) (Str.ofString "_law_order_kept")), [].toArray⟩
noncomputable def o552 (P : Params) : Obj := ⟨(.type "code"), none, (.fields [(.str (Str.ofString "_law_order_kept") 928), (.str (Str.ofString "_law_order_kept") 929), (.str (Str.ofString "/claim/cut.py") 930), (.int 397 0), (.int 3 0), (.int 0 0), (.int 0 0), (.int 3 0), (.ref 547), (.bool true), (.int 181 0), (.ref 548), .none, (.ref 549), (.ref 550), (.ref 551), (.int 936 0), (.int 397 0), (.str (Str.ofString "/claim/cut.py") 937)].toArray), [].toArray⟩
noncomputable def o553 (P : Params) : Obj := ⟨(.type "function"), none, (fD (st 41) (Str.ofString "_law_order_kept") .none (.str (Str.ofString "law_pq0288_01") 905) (.ref 552)), [].toArray⟩
noncomputable def o554 (P : Params) : Obj := ⟨(.type "tuple"), none, (.seq [].toArray 0), [].toArray⟩
noncomputable def o555 (P : Params) : Obj := ⟨.none, none, (.fields [].toArray), [].toArray⟩
noncomputable def o556 (P : Params) : Obj := ⟨.none, none, (fZ (st 42) (Str.ofString "law")), [].toArray⟩
noncomputable def o557 (P : Params) : Obj := ⟨(.type "code"), none, (.fields [(.str (Str.ofString "law") 939), (.str (Str.ofString "law") 940), (.str (Str.ofString "/claim/cut.py") 941), (.int 404 0), (.int 1 0), (.int 0 0), (.int 0 0), (.int 3 0), (.ref 554), (.bool true), (.int 181 0), (.ref 555), .none, .none, .none, (.ref 556), (.int 942 0), (.int 404 0), (.str (Str.ofString "/claim/cut.py") 943)].toArray), [].toArray⟩
noncomputable def o558 (P : Params) : Obj := ⟨(.type "function"), none, (fD (st 42) (Str.ofString "law") .none (.str (Str.ofString "law_pq0288_01") 905) (.ref 557)), [].toArray⟩
noncomputable def t5 (P : Params) : BT := (N (PySem.W.boot_o_0 P) (N (PySem.W.boot_o_1 P) (N (o3_5 P) (N (PySem.W.boot_o_7 P) (N (o15 P) (N (o31 P) (N (o63 P) (N (o127 P) (N (o255 P) (N (o511 P) Z Z) Z) (N (o383 P) Z Z)) (N (o191 P) (N (o319 P) Z Z) (N (o447 P) Z Z))) (N (o95 P) (N (o159 P) (N (o287 P) (N (o543 P) Z Z) Z) (N (o415 P) Z Z)) (N (o223 P) (N (o351 P) Z Z) (N (o479 P) Z Z)))) (N (o47 P) (N (o79 P) (N (o143 P) (N (o271 P) (N (o527 P) Z Z) Z) (N (o399 P) Z Z)) (N (o207 P) (N (o335 P) Z Z) (N (o463 P) Z Z))) (N (o111 P) (N (o175 P) (N (o303 P) Z Z) (N (o431 P) Z Z)) (N (o239 P) (N (o367 P) Z Z) (N (o495 P) Z Z))))) (N (o23 P) (N (o39 P) (N (o71 P) (N (o135 P) (N (o263 P) (N (o519 P) Z Z) Z) (N (o391 P) Z Z)) (N (o199 P) (N (o327 P) Z Z) (N (o455 P) Z Z))) (N (o103 P) (N (o167 P) (N (o295 P) (N (o551 P) Z Z) Z) (N (o423 P) Z Z)) (N (o231 P) (N (o359 P) Z Z) (N (o487 P) Z Z)))) (N (o55 P) (N (o87 P) (N (o151 P) (N (o279 P) (N (o535 P) Z Z) Z) (N (o407 P) Z Z)) (N (o215 P) (N (o343 P) Z Z) (N (o471 P) Z Z))) (N (o119 P) (N (o183 P) (N (o311 P) Z Z) (N (o439 P) Z Z)) (N (o247 P) (N (o375 P) Z Z) (N (o503 P) Z Z)))))) (N (o11 P) (N (o19 P) (N (o35 P) (N (o67 P) (N (o131 P) (N (o259 P) (N (o515 P) Z Z) Z) (N (o387 P) Z Z)) (N (o195 P) (N (o323 P) Z Z) (N (o451 P) Z Z))) (N (o99 P) (N (o163 P) (N (o291 P) (N (o547 P) Z Z) Z) (N (o419 P) Z Z)) (N (o227 P) (N (o355 P) Z Z) (N (o483 P) Z Z)))) (N (o51 P) (N (o83 P) (N (o147 P) (N (o275 P) (N (o531 P) Z Z) Z) (N (o403 P) Z Z)) (N (o211 P) (N (o339 P) Z Z) (N (o467 P) Z Z))) (N (o115 P) (N (o179 P) (N (o307 P) Z Z) (N (o435 P) Z Z)) (N (o243 P) (N (o371 P) Z Z) (N (o499 P) Z Z))))) (N (o27 P) (N (o43 P) (N (o75 P) (N (o139 P) (N (o267 P) (N (o523 P) Z Z) Z) (N (o395 P) Z Z)) (N (o203 P) (N (o331 P) Z Z) (N (o459 P) Z Z))) (N (o107 P) (N (o171 P) (N (o299 P) (N (o555 P) Z Z) Z) (N (o427 P) Z Z)) (N (o235 P) (N (o363 P) Z Z) (N (o491 P) Z Z)))) (N (o59 P) (N (o91 P) (N (o155 P) (N (o283 P) (N (o539 P) Z Z) Z) (N (o411 P) Z Z)) (N (o219 P) (N (o347 P) Z Z) (N (o475 P) Z Z))) (N (o123 P) (N (o187 P) (N (o315 P) Z Z) (N (o443 P) Z Z)) (N (o251 P) (N (o379 P) Z Z) (N (o507 P) Z Z))))))) (N (PySem.W.boot_o_5 P) (N (PySem.W.boot_o_9 P) (N (o17 P) (N (o33 P) (N (o65 P) (N (o129 P) (N (o257 P) (N (o513 P) Z Z) Z) (N (o385 P) Z Z)) (N (o193 P) (N (o321 P) Z Z) (N (o449 P) Z Z))) (N (o97 P) (N (o161 P) (N (o289 P) (N (o545 P) Z Z) Z) (N (o417 P) Z Z)) (N (o225 P) (N (o353 P) Z Z) (N (o481 P) Z Z)))) (N (o49 P) (N (o81 P) (N (o145 P) (N (o273 P) (N (o529 P) Z Z) Z) (N (o401 P) Z Z)) (N (o209 P) (N (o337 P) Z Z) (N (o465 P) Z Z))) (N (o113 P) (N (o177 P) (N (o305 P) Z Z) (N (o433 P) Z Z)) (N (o241 P) (N (o369 P) Z Z) (N (o497 P) Z Z))))) (N (o25 P) (N (o41 P) (N (o73 P) (N (o137 P) (N (o265 P) (N (o521 P) Z Z) Z) (N (o393 P) Z Z)) (N (o201 P) (N (o329 P) Z Z) (N (o457 P) Z Z))) (N (o105 P) (N (o169 P) (N (o297 P) (N (o553 P) Z Z) Z) (N (o425 P) Z Z)) (N (o233 P) (N (o361 P) Z Z) (N (o489 P) Z Z)))) (N (o57 P) (N (o89 P) (N (o153 P) (N (o281 P) (N (o537 P) Z Z) Z) (N (o409 P) Z Z)) (N (o217 P) (N (o345 P) Z Z) (N (o473 P) Z Z))) (N (o121 P) (N (o185 P) (N (o313 P) Z Z) (N (o441 P) Z Z)) (N (o249 P) (N (o377 P) Z Z) (N (o505 P) Z Z)))))) (N (o13 P) (N (o21 P) (N (o37 P) (N (o69 P) (N (o133 P) (N (o261 P) (N (o517 P) Z Z) Z) (N (o389 P) Z Z)) (N (o197 P) (N (o325 P) Z Z) (N (o453 P) Z Z))) (N (o101 P) (N (o165 P) (N (o293 P) (N (o549 P) Z Z) Z) (N (o421 P) Z Z)) (N (o229 P) (N (o357 P) Z Z) (N (o485 P) Z Z)))) (N (o53 P) (N (o85 P) (N (o149 P) (N (o277 P) (N (o533 P) Z Z) Z) (N (o405 P) Z Z)) (N (o213 P) (N (o341 P) Z Z) (N (o469 P) Z Z))) (N (o117 P) (N (o181 P) (N (o309 P) Z Z) (N (o437 P) Z Z)) (N (o245 P) (N (o373 P) Z Z) (N (o501 P) Z Z))))) (N (o29 P) (N (o45 P) (N (o77 P) (N (o141 P) (N (o269 P) (N (o525 P) Z Z) Z) (N (o397 P) Z Z)) (N (o205 P) (N (o333 P) Z Z) (N (o461 P) Z Z))) (N (o109 P) (N (o173 P) (N (o301 P) (N (o557 P) Z Z) Z) (N (o429 P) Z Z)) (N (o237 P) (N (o365 P) Z Z) (N (o493 P) Z Z)))) (N (o61 P) (N (o93 P) (N (o157 P) (N (o285 P) (N (o541 P) Z Z) Z) (N (o413 P) Z Z)) (N (o221 P) (N (o349 P) Z Z) (N (o477 P) Z Z))) (N (o125 P) (N (o189 P) (N (o317 P) Z Z) (N (o445 P) Z Z)) (N (o253 P) (N (o381 P) Z Z) (N (o509 P) Z Z)))))))) (N (o2_1 P) (N (PySem.W.boot_o_4 P) (N (PySem.W.boot_o_8 P) (N (o16 P) (N (o32 P) (N (o64 P) (N (o128 P) (N (o256 P) (N (o512 P) Z Z) Z) (N (o384 P) Z Z)) (N (o192 P) (N (o320 P) Z Z) (N (o448 P) Z Z))) (N (o96 P) (N (o160 P) (N (o288 P) (N (o544 P) Z Z) Z) (N (o416 P) Z Z)) (N (o224 P) (N (o352 P) Z Z) (N (o480 P) Z Z)))) (N (o48 P) (N (o80 P) (N (o144 P) (N (o272 P) (N (o528 P) Z Z) Z) (N (o400 P) Z Z)) (N (o208 P) (N (o336 P) Z Z) (N (o464 P) Z Z))) (N (o112 P) (N (o176 P) (N (o304 P) Z Z) (N (o432 P) Z Z)) (N (o240 P) (N (o368 P) Z Z) (N (o496 P) Z Z))))) (N (o24 P) (N (o40 P) (N (o72 P) (N (o136 P) (N (o264 P) (N (o520 P) Z Z) Z) (N (o392 P) Z Z)) (N (o200 P) (N (o328 P) Z Z) (N (o456 P) Z Z))) (N (o104 P) (N (o168 P) (N (o296 P) (N (o552 P) Z Z) Z) (N (o424 P) Z Z)) (N (o232 P) (N (o360 P) Z Z) (N (o488 P) Z Z)))) (N (o56 P) (N (o88 P) (N (o152 P) (N (o280 P) (N (o536 P) Z Z) Z) (N (o408 P) Z Z)) (N (o216 P) (N (o344 P) Z Z) (N (o472 P) Z Z))) (N (o120 P) (N (o184 P) (N (o312 P) Z Z) (N (o440 P) Z Z)) (N (o248 P) (N (o376 P) Z Z) (N (o504 P) Z Z)))))) (N (o12_5 P) (N (o20 P) (N (o36 P) (N (o68 P) (N (o132 P) (N (o260 P) (N (o516 P) Z Z) Z) (N (o388 P) Z Z)) (N (o196 P) (N (o324 P) Z Z) (N (o452 P) Z Z))) (N (o100 P) (N (o164 P) (N (o292 P) (N (o548 P) Z Z) Z) (N (o420 P) Z Z)) (N (o228 P) (N (o356 P) Z Z) (N (o484 P) Z Z)))) (N (o52 P) (N (o84 P) (N (o148 P) (N (o276 P) (N (o532 P) Z Z) Z) (N (o404 P) Z Z)) (N (o212 P) (N (o340 P) Z Z) (N (o468 P) Z Z))) (N (o116 P) (N (o180 P) (N (o308 P) Z Z) (N (o436 P) Z Z)) (N (o244 P) (N (o372 P) Z Z) (N (o500 P) Z Z))))) (N (o28 P) (N (o44 P) (N (o76 P) (N (o140 P) (N (o268 P) (N (o524 P) Z Z) Z) (N (o396 P) Z Z)) (N (o204 P) (N (o332 P) Z Z) (N (o460 P) Z Z))) (N (o108 P) (N (o172 P) (N (o300 P) (N (o556 P) Z Z) Z) (N (o428 P) Z Z)) (N (o236 P) (N (o364 P) Z Z) (N (o492 P) Z Z)))) (N (o60 P) (N (o92 P) (N (o156 P) (N (o284 P) (N (o540 P) Z Z) Z) (N (o412 P) Z Z)) (N (o220 P) (N (o348 P) Z Z) (N (o476 P) Z Z))) (N (o124 P) (N (o188 P) (N (o316 P) Z Z) (N (o444 P) Z Z)) (N (o252 P) (N (o380 P) Z Z) (N (o508 P) Z Z))))))) (N (PySem.W.boot_o_6 P) (N (PySem.W.boot_o_10 P) (N (o18 P) (N (o34 P) (N (o66 P) (N (o130 P) (N (o258 P) (N (o514 P) Z Z) Z) (N (o386 P) Z Z)) (N (o194 P) (N (o322 P) Z Z) (N (o450 P) Z Z))) (N (o98 P) (N (o162 P) (N (o290_5 P) (N (o546 P) Z Z) Z) (N (o418 P) Z Z)) (N (o226 P) (N (o354 P) Z Z) (N (o482 P) Z Z)))) (N (o50 P) (N (o82 P) (N (o146 P) (N (o274 P) (N (o530 P) Z Z) Z) (N (o402 P) Z Z)) (N (o210 P) (N (o338 P) Z Z) (N (o466 P) Z Z))) (N (o114 P) (N (o178 P) (N (o306 P) Z Z) (N (o434 P) Z Z)) (N (o242 P) (N (o370 P) Z Z) (N (o498 P) Z Z))))) (N (o26 P) (N (o42 P) (N (o74 P) (N (o138 P) (N (o266 P) (N (o522 P) Z Z) Z) (N (o394 P) Z Z)) (N (o202 P) (N (o330 P) Z Z) (N (o458 P) Z Z))) (N (o106 P) (N (o170 P) (N (o298 P) (N (o554 P) Z Z) Z) (N (o426 P) Z Z)) (N (o234 P) (N (o362 P) Z Z) (N (o490 P) Z Z)))) (N (o58 P) (N (o90 P) (N (o154 P) (N (o282 P) (N (o538 P) Z Z) Z) (N (o410 P) Z Z)) (N (o218 P) (N (o346 P) Z Z) (N (o474 P) Z Z))) (N (o122 P) (N (o186 P) (N (o314 P) Z Z) (N (o442 P) Z Z)) (N (o250 P) (N (o378 P) Z Z) (N (o506 P) Z Z)))))) (N (o14 P) (N (o22 P) (N (o38 P) (N (o70 P) (N (o134 P) (N (o262 P) (N (o518 P) Z Z) Z) (N (o390 P) Z Z)) (N (o198 P) (N (o326 P) Z Z) (N (o454 P) Z Z))) (N (o102 P) (N (o166 P) (N (o294 P) (N (o550 P) Z Z) Z) (N (o422 P) Z Z)) (N (o230 P) (N (o358 P) Z Z) (N (o486 P) Z Z)))) (N (o54 P) (N (o86 P) (N (o150 P) (N (o278 P) (N (o534 P) Z Z) Z) (N (o406 P) Z Z)) (N (o214 P) (N (o342 P) Z Z) (N (o470 P) Z Z))) (N (o118 P) (N (o182 P) (N (o310 P) Z Z) (N (o438 P) Z Z)) (N (o246 P) (N (o374 P) Z Z) (N (o502 P) Z Z))))) (N (o30 P) (N (o46 P) (N (o78 P) (N (o142 P) (N (o270 P) (N (o526 P) Z Z) Z) (N (o398 P) Z Z)) (N (o206 P) (N (o334 P) Z Z) (N (o462 P) Z Z))) (N (o110 P) (N (o174 P) (N (o302 P) (N (o558 P) Z Z) Z) (N (o430 P) Z Z)) (N (o238 P) (N (o366 P) Z Z) (N (o494 P) Z Z)))) (N (o62 P) (N (o94 P) (N (o158 P) (N (o286 P) (N (o542 P) Z Z) Z) (N (o414 P) Z Z)) (N (o222 P) (N (o350 P) Z Z) (N (o478 P) Z Z))) (N (o126 P) (N (o190 P) (N (o318 P) Z Z) (N (o446 P) Z Z)) (N (o254 P) (N (o382 P) Z Z) (N (o510 P) Z Z)))))))))
-- boundary 5: upto 43, objs 559, toks 945, pos ⟨404, 0, 435, 15⟩, steps 908
noncomputable def hO (P : Params) : List Obj := [PySem.W.boot_o_0 P, PySem.W.boot_o_1 P, o2_1 P, o3_5 P, PySem.W.boot_o_4 P, PySem.W.boot_o_5 P, PySem.W.boot_o_6 P, PySem.W.boot_o_7 P, PySem.W.boot_o_8 P, PySem.W.boot_o_9 P, PySem.W.boot_o_10 P, o11 P, o12_5 P, o13 P, o14 P, o15 P, o16 P, o17 P, o18 P, o19 P, o20 P, o21 P, o22 P, o23 P, o24 P, o25 P, o26 P, o27 P, o28 P, o29 P, o30 P, o31 P, o32 P, o33 P, o34 P, o35 P, o36 P, o37 P, o38 P, o39 P, o40 P, o41 P, o42 P, o43 P, o44 P, o45 P, o46 P, o47 P, o48 P, o49 P, o50 P, o51 P, o52 P, o53 P, o54 P, o55 P, o56 P, o57 P, o58 P, o59 P, o60 P, o61 P, o62 P, o63 P, o64 P, o65 P, o66 P, o67 P, o68 P, o69 P, o70 P, o71 P, o72 P, o73 P, o74 P, o75 P, o76 P, o77 P, o78 P, o79 P, o80 P, o81 P, o82 P, o83 P, o84 P, o85 P, o86 P, o87 P, o88 P, o89 P, o90 P, o91 P, o92 P, o93 P, o94 P, o95 P, o96 P, o97 P, o98 P, o99 P, o100 P, o101 P, o102 P, o103 P, o104 P, o105 P, o106 P, o107 P, o108 P, o109 P, o110 P, o111 P, o112 P, o113 P, o114 P, o115 P, o116 P, o117 P, o118 P, o119 P, o120 P, o121 P, o122 P, o123 P, o124 P, o125 P, o126 P, o127 P, o128 P, o129 P, o130 P, o131 P, o132 P, o133 P, o134 P, o135 P, o136 P, o137 P, o138 P, o139 P, o140 P, o141 P, o142 P, o143 P, o144 P, o145 P, o146 P, o147 P, o148 P, o149 P, o150 P, o151 P, o152 P, o153 P, o154 P, o155 P, o156 P, o157 P, o158 P, o159 P, o160 P, o161 P, o162 P, o163 P, o164 P, o165 P, o166 P, o167 P, o168 P, o169 P, o170 P, o171 P, o172 P, o173 P, o174 P, o175 P, o176 P, o177 P, o178 P, o179 P, o180 P, o181 P, o182 P, o183 P, o184 P, o185 P, o186 P, o187 P, o188 P, o189 P, o190 P, o191 P, o192 P, o193 P, o194 P, o195 P, o196 P, o197 P, o198 P, o199 P, o200 P, o201 P, o202 P, o203 P, o204 P, o205 P, o206 P, o207 P, o208 P, o209 P, o210 P, o211 P, o212 P, o213 P, o214 P, o215 P, o216 P, o217 P, o218 P, o219 P, o220 P, o221 P, o222 P, o223 P, o224 P, o225 P, o226 P, o227 P, o228 P, o229 P, o230 P, o231 P, o232 P, o233 P, o234 P, o235 P, o236 P, o237 P, o238 P, o239 P, o240 P, o241 P, o242 P, o243 P, o244 P, o245 P, o246 P, o247 P, o248 P, o249 P, o250 P, o251 P, o252 P, o253 P, o254 P, o255 P, o256 P, o257 P, o258 P, o259 P, o260 P, o261 P, o262 P, o263 P, o264 P, o265 P, o266 P, o267 P, o268 P, o269 P, o270 P, o271 P, o272 P, o273 P, o274 P, o275 P, o276 P, o277 P, o278 P, o279 P, o280 P, o281 P, o282 P, o283 P, o284 P, o285 P, o286 P, o287 P, o288 P, o289 P, o290_5 P, o291 P, o292 P, o293 P, o294 P, o295 P, o296 P, o297 P, o298 P, o299 P, o300 P, o301 P, o302 P, o303 P, o304 P, o305 P, o306 P, o307 P, o308 P, o309 P, o310 P, o311 P, o312 P, o313 P, o314 P, o315 P, o316 P, o317 P, o318 P, o319 P, o320 P, o321 P, o322 P, o323 P, o324 P, o325 P, o326 P, o327 P, o328 P, o329 P, o330 P, o331 P, o332 P, o333 P, o334 P, o335 P, o336 P, o337 P, o338 P, o339 P, o340 P, o341 P, o342 P, o343 P, o344 P, o345 P, o346 P, o347 P, o348 P, o349 P, o350 P, o351 P, o352 P, o353 P, o354 P, o355 P, o356 P, o357 P, o358 P, o359 P, o360 P, o361 P, o362 P, o363 P, o364 P, o365 P, o366 P, o367 P, o368 P, o369 P, o370 P, o371 P, o372 P, o373 P, o374 P, o375 P, o376 P, o377 P, o378 P, o379 P, o380 P, o381 P, o382 P, o383 P, o384 P, o385 P, o386 P, o387 P, o388 P, o389 P, o390 P, o391 P, o392 P, o393 P, o394 P, o395 P, o396 P, o397 P, o398 P, o399 P, o400 P, o401 P, o402 P, o403 P, o404 P, o405 P, o406 P, o407 P, o408 P, o409 P, o410 P, o411 P, o412 P, o413 P, o414 P, o415 P, o416 P, o417 P, o418 P, o419 P, o420 P, o421 P, o422 P, o423 P, o424 P, o425 P, o426 P, o427 P, o428 P, o429 P, o430 P, o431 P, o432 P, o433 P, o434 P, o435 P, o436 P, o437 P, o438 P, o439 P, o440 P, o441 P, o442 P, o443 P, o444 P, o445 P, o446 P, o447 P, o448 P, o449 P, o450 P, o451 P, o452 P, o453 P, o454 P, o455 P, o456 P, o457 P, o458 P, o459 P, o460 P, o461 P, o462 P, o463 P, o464 P, o465 P, o466 P, o467 P, o468 P, o469 P, o470 P, o471 P, o472 P, o473 P, o474 P, o475 P, o476 P, o477 P, o478 P, o479 P, o480 P, o481 P, o482 P, o483 P, o484 P, o485 P, o486 P, o487 P, o488 P, o489 P, o490 P, o491 P, o492 P, o493 P, o494 P, o495 P, o496 P, o497 P, o498 P, o499 P, o500 P, o501 P, o502 P, o503 P, o504 P, o505 P, o506 P, o507 P, o508 P, o509 P, o510 P, o511 P, o512 P, o513 P, o514 P, o515 P, o516 P, o517 P, o518 P, o519 P, o520 P, o521 P, o522 P, o523 P, o524 P, o525 P, o526 P, o527 P, o528 P, o529 P, o530 P, o531 P, o532 P, o533 P, o534 P, o535 P, o536 P, o537 P, o538 P, o539 P, o540 P, o541 P, o542 P, o543 P, o544 P, o545 P, o546 P, o547 P, o548 P, o549 P, o550 P, o551 P, o552 P, o553 P, o554 P, o555 P, o556 P, o557 P, o558 P]
end
end Mine.H

end

section
open PySem PySem.W PyProof.Rows
namespace Mine.H
open PySem PySem.W PySem.Calls
abbrev sl (i n : Nat) : List Stmt := (pw.main.body.drop i).take n
abbrev mE : Env := { scope := pw.main.scope, locals := mainNs, globals := mainNs, cells := [], code := .ref 13, frame := some 14 }
abbrev bE : List Stmt := behindTheImports pw
abbrev cE : Code := .body bE mE
abbrev q0 : Pos := ⟨0, 0, 0, 0⟩
abbrev an : Option Value := some (.ref 6)
noncomputable abbrev S (t : Params → BT) (n toks : Nat) (w : World) (os : OsState) : SharedT := ⟨t w.params, n, {}, #[], {}, toks, os⟩
theorem p1T (w : World) : (fun os => segRunT treeTable pw w 11 an 1 877 (S t0 15 187 w os) (piecesOf (sl 0 23) mE cE q0 [topFrame q0])) = fun os => some (Flow.next, S t1 169 420 w os, cE, ⟨127, 0, 142, 65⟩) := by
  rw [Fast.te10110043849684766642, Fast.te14364793385576792824]
  kernel_rfl
theorem p2T (w : World) : (fun os => segRunT treeTable pw w 11 an 1 561 (S t1 169 420 w os) (piecesOf (sl 23 2) mE cE ⟨127, 0, 142, 65⟩ [topFrame q0])) = fun os => some (Flow.next, S t2 260 540 w os, cE, ⟨144, 0, 208, 16⟩) := by
  rw [Fast.te10110043849684766642, Fast.te14364793385576792824]
  kernel_rfl
theorem p3T (w : World) : (fun os => segRunT treeTable pw w 11 an 1 645 (S t2 260 540 w os) (piecesOf (sl 25 4) mE cE ⟨144, 0, 208, 16⟩ [topFrame q0])) = fun os => some (Flow.next, S t3 335 637 w os, cE, ⟨221, 0, 236, 16⟩) := by
  rw [Fast.te10110043849684766642, Fast.te14364793385576792824]
  kernel_rfl
theorem p4T (w : World) : (fun os => segRunT treeTable pw w 11 an 1 469 (S t3 335 637 w os) (piecesOf (sl 29 2) mE cE ⟨221, 0, 236, 16⟩ [topFrame q0])) = fun os => some (Flow.next, S t4 405 737 w os, cE, ⟨281, 0, 281, 8⟩) := by
  rw [Fast.te10110043849684766642, Fast.te14364793385576792824]
  kernel_rfl
theorem p5T (w : World) : (fun os => segRunT treeTable pw w 11 an 1 909 (S t4 405 737 w os) (piecesOf (sl 31 12) mE cE ⟨281, 0, 281, 8⟩ [topFrame q0])) = fun os => some (Flow.next, S t5 559 945 w os, cE, ⟨404, 0, 435, 15⟩) := by
  rw [Fast.te10110043849684766642, Fast.te14364793385576792824]
  kernel_rfl
theorem preT (w : World) : (fun os => topGo treeTable pw w 11 an 12 ⟨boot_heap w.params, #[], boot_drawn, boot_toks, os⟩ (topStub pw)) = fun os => some ((S t0 15 187 w os).abs, (⟨denote treeTable cE, cE, q0, [topFrame q0]⟩ : Thread)) := by
  rw [Fast.te15667345088766844465, Fast.te14364793385576792824, Fast.te11892475500146522536]
  kernel_rfl
theorem blockT (w : World) : (fun os => segRun treeTable pw w 11 an 1 1 (S t0 15 187 w os).abs (blockOf bE mE cE q0 [topFrame q0])) = fun os => some (Flow.next, (S t0 15 187 w os).abs, cE, q0) := by
  rw [Fast.te14374325043358763698, Fast.te14364793385576792824]
  kernel_rfl
theorem finT (w : World) : (fun os => topRun treeTable pw w 11 an 2 (S t5 559 945 w os).abs ⟨doneF .next, cE, ⟨404, 0, 435, 15⟩, [topFrame q0]⟩) = fun os => some (S t5 559 945 w os).abs := by
  rw [Fast.te14082659384304107361, Fast.te14364793385576792824]
  kernel_rfl
end Mine.H

end

section
open PySem PySem.W PyProof.Rows
namespace Mine.H
open PySem PySem.W PySem.Calls
theorem bodyIs : bE = sl 0 23 ++ (sl 23 2 ++ (sl 25 4 ++ (sl 29 2 ++ (sl 31 12 ++ [])))) := by kernel_rfl
noncomputable def hF (P : Params) : Heap := ⟨⟨hO P⟩, {}⟩
theorem finIs (w : World) (os : OsState) : (S t5 559 945 w os).abs = ⟨hF w.params, #[], {}, 945, os⟩ := by kernel_rfl
theorem run (w : World) (os : OsState) : topRun treeTable pw w 11 an (12 + (1 + (877 + (561 + (645 + (469 + (909 + 2))))))) ⟨boot_heap w.params, #[], boot_drawn, boot_toks, os⟩ (topStub pw) = some ⟨hF w.params, #[], {}, 945, os⟩ := by
  refine go_top (congrFun (preT w) os) (piece_block (congrFun (blockT w) os) ?_)
  rw [bodyIs]
  refine piece_app (segRun_of (congrFun (p1T w) os)) (piece_app (segRun_of (congrFun (p2T w) os)) (piece_app (segRun_of (congrFun (p3T w) os)) (piece_app (segRun_of (congrFun (p4T w) os)) (piece_app (segRun_of (congrFun (p5T w) os)) (piece_nil ?_)))))
  rw [← finIs]
  exact congrFun (finT w) os
theorem sizeL (w : World) : ((boot_heap w.params).isNs mainGlobals && (#[] : Array GenState).size == 0, (boot_heap w.params).objs.size, (boot_heap w.params).nsMap mainGlobals "__annotations__") = (true, 11, an) := by
  rw [Fast.te8920871248978507458]
  kernel_rfl
theorem openL : ∀ w : World, (fencedOpening treeTable pw w 7038).map (fun s => (s.heap, s.gens, s.drawn, s.toks)) = some (boot_heap w.params, #[], boot_drawn, boot_toks) :=
  boot_open (by kernel_rfl) (by decide) (fun s => by kernel_rfl)
noncomputable abbrev qv : Program := { pw with main := { pw.main with body := [st 0, st 2, st 4, st 5, st 6, st 7, st 8, st 9, st 10, st 11, st 12, st 13, st 14, st 17, st 18, st 20, st 21, st 22, st 24, st 26, st 28, st 29, st 31, st 33, st 34, st 36, st 38, st 39, st 40, st 41, st 42] } }
abbrev LS : List Str := [Str.ofString "LONGEST", Str.ofString "insert_at", Str.ofString "insert", Str.ofString "replace", Str.ofString "Buffer"]
abbrev lv : List (Str × WData) := [(Str.ofString "LONGEST", WData.int 4194304)]
noncomputable abbrev Xt (s : Shared) : Bool := xlAt qv lv s && recOk (RowW.records PySem.Challenge.rw_pq0288_01.row.toRowW) s
theorem looks1 (w : World) : (fun os => staticsOk (importedModules pw.main.body) (boot_heap w.params) (hF w.params) && namesBound pw (hF w.params) && gensDone ⟨hF w.params, #[], {}, 945, os⟩ && laidKept (boot_heap w.params) (hF w.params)) = fun _ => true := by
  rw [Fast.te5923862056798008813]
  kernel_rfl
theorem looks2 (w : World) : (fun os => openSeen qv LS (importedModules pw.main.body) Xt true ⟨hF w.params, #[], {}, 945, os⟩) = fun _ => openGood qv LS := by
  rw [Fast.te4187177175401517315, Fast.te5923862056798008813]
  kernel_rfl
end Mine.H

end

section
open PySem PySem.W PyProof.Rows
namespace Mine.H
theorem leftH (H : Hook) (looks3 : ∀ w : World, (fun os => H.obs ⟨hF w.params, #[], {}, 945, os⟩) = fun _ => H.val w) : LeftO pw qv LS Xt H.obs H.val 7038 true :=
  LeftO.of_pieces openL sizeL run (by decide) (fun w => by
    have l1 := looks1 w
    have l2 := looks2 w
    have l3 := looks3 w
    funext os
    exact Prod.ext (congrFun l1 os) (Prod.ext (congrFun l2 os) (congrFun l3 os)))
theorem headO {d : DefRec} {kwd : List (Str × Expr)} (H : Hook) (l3 : ∀ w : World, (fun os => H.obs ⟨hF w.params, #[], {}, 945, os⟩) = fun _ => H.val w)
    (k1 : PySem.Challenge.rw_pq0288_01.row.wellSaid = true) (hdef : defOf qv PySem.Challenge.rw_pq0288_01.row.name = some (d, kwd)) (hp : PySem.Challenge.rw_pq0288_01.row.prog.theDef PySem.Challenge.rw_pq0288_01.row.name = some (d.params, d.body, d.scope)) (hk : kwWritten? d.params.kwonlyargs d.params.kw_defaults = some kwd)
    (hw : PySem.Challenge.rw_pq0288_01.row.toRowW.promised) (call : WalkO qv LS (XL qv lv) (Hook.says H) PySem.Challenge.rw_pq0288_01.row.toRowW d kwd fun f vs => PySem.call f vs) : PySem.Challenge.rw_pq0288_01.row.Holds :=
  holds_open (q := qv) (loose := LS) (Xt := Xt) (XP := XL qv lv) (Yf := Hook.obs H) (Ya := Hook.val H) (YP := Hook.says H) (N := 7038) (leftH H l3) (Hook.of H) (Hook.keeps H) (fun s e => xl_of s (Bool.and_eq_true_iff.mp e).1) XL.keeps hdef hp hk (fun s e => recFacts_of (Bool.and_eq_true_iff.mp e).2) (by rfl) k1 (by decide +kernel) ⟨rfl, rfl, rfl, rfl, rfl, by decide +kernel⟩ hw call
theorem well : OpenLaw.wellSaid PySem.Challenge.rw_pq0288_01 = true := by kernel_rfl
end Mine.H
local macro_rules | `(tactic| o_head $H:term) => `(tactic| refine Mine.H.headO $H (fun w => by kernel_rfl) (by assumption) (by rfl) (by rfl) (by rfl) ?hw ?hc)
local macro_rules | `(tactic| o_law) => `(tactic| refine holds_law Mine.H.well fun said => ?_)
namespace Mine
open_top hd for PySem.Challenge.rw_pq0288_01
end Mine

end

section
open PySem PySem.W PyProof.Rows
namespace Mine
open PySem PySem.Spec PySem.Calls PySem.W PyProof.Rows

abbrev PG : Program := PySem.Challenge.rw_pq0288_01.row.prog
abbrev LS : List Str := Mine.H.LS

/-- no address of the one stands in the other -/
def Off (a b : List (Addr × Obj)) : Prop := ∀ p ∈ a, ∀ q ∈ b, p.1 ≠ q.1
def Sub (a b : List (Addr × Obj)) : Prop := ∀ p ∈ a, p ∈ b
theorem News.sub {h₀ h : Heap} {L : Addr} {a b : List (Addr × Obj)} (N : News h₀ L h b) (x : Sub a b) : News h₀ L h a := fun p hp => N p (x p hp)
theorem News.app {h₀ h : Heap} {L : Addr} {a b : List (Addr × Obj)} (x : News h₀ L h a) (y : News h₀ L h b) : News h₀ L h (a ++ b) := fun p hp => (List.mem_append.mp hp).elim (x p) (y p)

/-- a framed call's end: what the callee did not own stands as it stood -/
def LeaveF (h₀ : Heap) (L : Addr) (m : Str → Option Value) (g : Heap) (rest : List (Addr × Obj)) (R : Result → Shared → Prop) (v : Value) (s' : Shared) : Prop :=
  ∃ L' m' news', Fr g L' s'.heap m' ∧ News g L' s'.heap news' ∧ (Fr h₀ L s'.heap m → News h₀ L s'.heap (news' ++ rest) → Off news' rest → R (.ok (.ret v)) s')
theorem leaveF_ {h₀ g : Heap} {L L' : Addr} {m m' : Str → Option Value} {news' rest : List (Addr × Obj)} {R : Result → Shared → Prop} {v : Value} {s' : Shared} (F' : Fr g L' s'.heap m') (N' : News g L' s'.heap news')
    (k : Fr h₀ L s'.heap m → News h₀ L s'.heap (news' ++ rest) → Off news' rest → R (.ok (.ret v)) s') : LeaveF h₀ L m g rest R v s' := ⟨L', m', news', F', N', k⟩

/-- the part 'small' of a ledger cut out of it; the rest -/
inductive Part : List (Addr × Obj) → List (Addr × Obj) → List (Addr × Obj) → Prop
  | whole (a) : Part a a []
  | app (a r) : Part a (a ++ r) r
  | cons (p) {a l r} : Part a l r → Part a (p :: l) (p :: r)
  | appR (g) {a l r} : Part a l r → Part a (g ++ l) (g ++ r)
  | next {p a l r q} : Part [p] l q → Part a q r → Part (p :: a) l r
theorem Part.sub {a l r : List (Addr × Obj)} (x : Part a l r) : Sub (a ++ r) l := by
  induction x with
  | whole a => intro p hp; simpa using hp
  | app a r => intro p hp; exact hp
  | cons q _ ih =>
    intro p hp
    rcases List.mem_append.mp hp with h | h
    · exact List.mem_cons_of_mem _ (ih p (List.mem_append_left _ h))
    · rcases List.mem_cons.mp h with rfl | h
      · exact List.mem_cons_self
      · exact List.mem_cons_of_mem _ (ih p (List.mem_append_right _ h))
  | appR g _ ih =>
    intro p hp
    rcases List.mem_append.mp hp with h | h
    · exact List.mem_append_right _ (ih p (List.mem_append_left _ h))
    · rcases List.mem_append.mp h with h | h
      · exact List.mem_append_left _ h
      · exact List.mem_append_right _ (ih p (List.mem_append_right _ h))
  | next _ _ ih1 ih2 =>
    intro p hp
    rcases List.mem_append.mp hp with h | h
    · rcases List.mem_cons.mp h with rfl | h
      · exact ih1 _ (by simp)
      · exact ih1 _ (List.mem_append_right _ (ih2 p (List.mem_append_left _ h)))
    · exact ih1 _ (List.mem_append_right _ (ih2 p (List.mem_append_right _ h)))

section
variable {prog : Program} {w : World} {A₀ A : Around} {s : Shared} {base h₀ : Heap} {outer : List Env} {L : Addr} {m : Str → Option Value} {env : Env} {K : Frag} {p : Program} {loose : List Str} {mean : ExcName → Option Value} {mg mb : Str → Option Value}
  {R : Result → Shared → Prop} {name qual : Str} {params : Arguments} {body : List Stmt} {scope : Scope} {dV kV doc pm cdv ct oc : Value} {an od : Option Addr} {osl : Array (Option Value)} {f : Addr} {args : Args} {binds : List (Str × Value)}

theorem groundF {small rest : List (Addr × Obj)} (B : Below A₀ base outer h₀) (F : Fr h₀ L s.heap m) (N : News h₀ L s.heap (small ++ rest)) (off : Off small rest) (hA : A.frames = some (env :: outer)) (hf : env.frame = some L) (hke : env.scope.kind = .function) :
    Fr h₀ L (hideAll s.heap (small.map (·.1))) m ∧ Below A base (env :: outer) (hideAll s.heap (small.map (·.1))) ∧ h₀.StaysIn (hideAll s.heap (small.map (·.1))) ∧
      ∀ v s', LeaveF h₀ L m (hideAll s.heap (small.map (·.1))) rest R v s' → R (.ok (.ret v)) s' := by
  have Ns : News h₀ L s.heap small := fun p hp => N p (List.mem_append_left _ hp)
  obtain ⟨FG, BG, stay, lv⟩ := groundX (R := R) B F Ns hA hf hke
  refine ⟨FG, BG, stay, fun v s' hl => ?_⟩
  obtain ⟨L', m', news', F', N', k⟩ := hl
  have inG : ∀ q ∈ rest, (hideAll s.heap (small.map (·.1))).get? q.1 = some q.2 := fun q hq => hideAll_get _ (N q (List.mem_append_right _ hq)).1 fun e => by
    obtain ⟨r, hr, e⟩ := List.mem_map.mp e
    exact off r hr q hq e
  refine lv v s' ⟨L', m', news', F', N', fun Fh Nh => k Fh (News.app Nh fun q hq => ⟨F'.keep _ _ (inG q hq), (N q (List.mem_append_right _ hq)).2⟩) fun p hp q hq e => ?_⟩
  have h1 := (N' p hp).2.2
  rw [e, inG q hq] at h1
  cases h1

theorem code_defF {small rest : List (Addr × Obj)} (B : Below A₀ base outer h₀) (F : Fr h₀ L s.heap m) (X₀ : K.In h₀) (N : News h₀ L s.heap (small ++ rest)) (off : Off small rest) (T : Top p loose mean mg mb h₀) (hA : A.frames = some (env :: outer)) (hf : env.frame = some L) (hke : env.scope.kind = .function)
    (ho : K.lookup f = some ⟨oc, od, .func (fnOf name qual params body scope dV kV doc pm an cdv ct), osl⟩) (hcd : codeIn K cdv qual = true) (hroom : A.depth < recursionLimit)
    (hbind : BindsTo s (fnOf name qual params body scope dV kV doc pm an cdv ct) args binds) (hloc : ∀ y ∈ binds, scope.names.lookup y.1 = some .local)
    (h : ∀ g L' h₁, Fr h₀ L g m → Fr g L' h₁ (fun y => binds.reverse.lookup y) → News g L' h₁ small → Below A base (env :: outer) g → K.In g → Top p loose mean mg mb g → 
      wpAny (model prog w) (A.deeper (envOf qual scope L' f cdv)) (execs body (envOf qual scope L' f cdv))
        (fun fl s' => LeaveF h₀ L m g rest R (match fl with | .ret v => v | _ => .none) s')
        (fun e s' => wpAny (model prog w) (A.deeper (envOf qual scope L' f cdv)) (leaving (envOf qual scope L' f cdv) e) (fun _ s'' => R (.error e) s'') (fun e' s'' => R (.error e') s'') s')
        { s with heap := h₁, toks := s.toks + binds.length })
    (hco : scope.isCoroutine = false) (hgen : scope.isGenerator = false) (hk : scope.kind = .function)
    (hcell : ∀ x ∈ scope.names, x.2 ≠ .cell) : codeAny (model prog w) A (.call (.ref f) args) R s := by
  obtain ⟨FG, BG, stay, lv⟩ := groundF (R := R) B F N off hA hf hke
  have Ns : News h₀ L s.heap small := fun p hp => N p (List.mem_append_left _ hp)
  refine codeAny_call_def (fd := fnX name qual params body scope [] dV kV doc pm an cdv ct) (body := body) (binds := binds) hroom ((X₀.keeps F.keep) _ _ ho) rfl (T.nolimit.keeps F.keep) (codeRec_of (X₀.keeps F.keep) hcd) rfl hbind hcell hloc (fun h₁ hns hk₁ => ?_) hco hgen hk
  exact wpAny_mono (h _ s.heap.objs.size h₁ FG ⟨hns, fun b o e => hk₁ b o (of_hideAll _ e), Nat.le_of_eq (hideAll_size _ _)⟩
    (fun p hp => ⟨hk₁ _ _ (Ns p hp).1, Nat.ne_of_lt (Heap.lt_size (Ns p hp).1), hideAll_none _ (List.mem_map_of_mem hp)⟩) BG (X₀.keeps stay) (T.keeps stay)) (fun fl s' hl => lv _ _ hl) fun _ _ y => y
end

/-- what a call of the def at f does: to the part 'small' of the ledger, whatever else stands -/
def Cal (w : World) (f : Addr) (args : List Value) (dpn unn : Nat) (small : List (Addr × Obj)) {X : Type} (val : X → Value) (led : X → List (Addr × Obj)) (ok : List (Addr × Obj) → X → Prop) : Prop :=
  ∀ (mean : ExcName → Option Value) (mg mb : Str → Option Value) (dp un : Nat) (gdd : Option (List Code)) (cn : Str) (cs : Scope) (a : Addr) (ccd : Value) (cll : List (Str × Addr)) (outer : List Env) (A₀ : Around) (base h₀ : Heap) (L : Addr) (m : Str → Option Value) (s : Shared) (rest : List (Addr × Obj)) (Q E : Value → Shared → Prop),
    Below A₀ base outer h₀ → Fr h₀ L s.heap m → (hd.heap_1 w.params).In h₀ → News h₀ L s.heap (small ++ rest) → Off small rest → Top H.qv (looseW H.qv LS) mean mg mb h₀ → cs.kind = .function → dp + dpn < recursionLimit → un + unn < cLine →
    (∀ (x : X) (h' : Heap) (tk' : Nat), ok rest x → Fr h₀ L h' m → News h₀ L h' (led x ++ rest) → Q (val x) { s with heap := h', toks := tk' }) →
    wpAny (model PG w) (ktrTop dp un gdd cn cs L a ccd cll outer) (call (.ref f) args) Q E s
theorem Cal.use {w : World} {f : Addr} {args : List Value} {dpn unn : Nat} {small news rest : List (Addr × Obj)} {X : Type} {val : X → Value} {led : X → List (Addr × Obj)} {ok : List (Addr × Obj) → X → Prop} {mean : ExcName → Option Value} {mg mb : Str → Option Value} {dp un : Nat} {gdd : Option (List Code)} {cn : Str} {cs : Scope} {a : Addr} {ccd : Value} {cll : List (Str × Addr)} {outer : List Env} {A₀ : Around} {base h₀ : Heap} {L : Addr} {m : Str → Option Value} {s : Shared} {Q E : Value → Shared → Prop}
    (C : Cal w f args dpn unn small val led ok) (B : Below A₀ base outer h₀) (F : Fr h₀ L s.heap m) (X₀ : (hd.heap_1 w.params).In h₀) (N : News h₀ L s.heap news) (P : Part small news rest) (off : Off small rest) (T : Top H.qv (looseW H.qv LS) mean mg mb h₀) (hk : cs.kind = .function) (hd : dp + dpn < recursionLimit) (hu : un + unn < cLine)
    (h : ∀ (x : X) (h' : Heap) (tk' : Nat), ok rest x → Fr h₀ L h' m → News h₀ L h' (led x ++ rest) → Q (val x) { s with heap := h', toks := tk' }) :
    wpAny (model PG w) (ktrTop dp un gdd cn cs L a ccd cll outer) (call (.ref f) args) Q E s := C mean mg mb dp un gdd cn cs a ccd cll outer A₀ base h₀ L m s rest Q E B F X₀ (News.sub N P.sub) off T hk hd hu h

/-- the end of such a call's walk -/
theorem Cal.done {h₀ g h' : Heap} {L L' : Addr} {m m' : Str → Option Value} {s : Shared} {tk' : Nat} (rest : List (Addr × Obj)) {news' : List (Addr × Obj)} {X : Type} {val : X → Value} {led : X → List (Addr × Obj)} {ok : X → Prop} {Q E : Value → Shared → Prop}
    (hret : ∀ (x : X) (h' : Heap) (tk' : Nat), ok x → Fr h₀ L h' m → News h₀ L h' (led x ++ rest) → Q (val x) { s with heap := h', toks := tk' }) (x : X)
    (F' : Fr g L' h' m') (N' : News g L' h' news') (hs : Sub (led x) news') (hok : ok x) :
    LeaveF h₀ L m g rest (fun r s' => match r with | .ok (.ret v) => Q v s' | .ok _ => False | .error e => E e s') (val x) { s with heap := h', toks := tk' } :=
  leaveF_ (s' := { s with heap := h', toks := tk' }) F' (News.sub N' hs) fun kF kN _ => hret x h' tk' hok kF kN
/-- the same where the walk kept the whole ledger -/
theorem Cal.doneK {h₀ g h' : Heap} {L L' : Addr} {m m' : Str → Option Value} {s : Shared} {tk' : Nat} (rest : List (Addr × Obj)) {news' : List (Addr × Obj)} {X : Type} {val : X → Value} {led : X → List (Addr × Obj)} {ok : X → Prop} {Q E : Value → Shared → Prop}
    (hret : ∀ (x : X) (h' : Heap) (tk' : Nat), ok x → Fr h₀ L h' m → News h₀ L h' (led x ++ rest) → Q (val x) { s with heap := h', toks := tk' }) (x : X)
    (F' : Fr g L' h' m') (N' : News g L' h' news') (hs : Sub (led x ++ rest) news') (hok : ok x) :
    LeaveK h₀ L m g (fun r s' => match r with | .ok (.ret v) => Q v s' | .ok _ => False | .error e => E e s') (val x) { s with heap := h', toks := tk' } :=
  leaveK_ (s' := { s with heap := h', toks := tk' }) F' (News.sub N' hs) fun kF kN => hret x h' tk' hok kF kN
theorem Sub.refl (a : List (Addr × Obj)) : Sub a a := fun _ h => h
theorem Sub.none (b : List (Addr × Obj)) : Sub [] b := fun _ h => nomatch h
theorem Sub.same {p : Addr × Obj} {a b : List (Addr × Obj)} (x : Sub a b) : Sub (p :: a) (p :: b) := fun q hq => by
  rcases List.mem_cons.mp hq with rfl | h
  · exact List.mem_cons_self
  · exact List.mem_cons_of_mem _ (x q h)
theorem Sub.skip {p : Addr × Obj} {a b : List (Addr × Obj)} (x : Sub a b) : Sub a (p :: b) := fun q hq => List.mem_cons_of_mem _ (x q hq)
theorem allLt_at {d : Addr} : ∀ {l : List (Addr × Obj)}, AllLt d l → ∀ p ∈ l, p.1 < d
  | [], _, _, h => nomatch h
  | _ :: _, x, p, h => by
    rcases List.mem_cons.mp h with rfl | h
    · exact x.1
    · exact allLt_at x.2 p h
theorem off_nil (a : List (Addr × Obj)) : Off a [] := fun _ _ _ h => nomatch h
theorem off_cons {p : Addr × Obj} {a b : List (Addr × Obj)} (h1 : ∀ q ∈ b, q.1 ≠ p.1) (h2 : Off a b) : Off (p :: a) b := fun x hx q hq => by
  rcases List.mem_cons.mp hx with rfl | hx
  · exact fun e => h1 q hq e.symm
  · exact h2 x hx q hq
theorem off_none (b : List (Addr × Obj)) : Off [] b := fun _ h => nomatch h
theorem ints_cast {vs : List Value} {a b : List Int} (h : IntsAre vs a) (e : a = b) : IntsAre vs b := e ▸ h

/-! places within the text -/
theorem ed_lo {b a : Int} (h : 0 ≤ a) : b ≤ b + a := Int.le_add_of_nonneg_right h
theorem ed_z1 {b a z : Int} (h : a < z - b + 1) : b + a ≤ z := by
  have h := Int.add_le_add_left (Int.le_of_lt_add_one h) b
  rwa [Int.add_comm b (z - b), Int.sub_add_cancel] at h
theorem ed_1 {b a c : Int} (h : c ≤ b) (h' : 0 ≤ a) : c ≤ b + a := Int.le_trans h (ed_lo h')
theorem ed_d {z b : Int} (h : b ≤ z) : 1 ≤ z - b + 1 := Int.le_add_of_nonneg_left (Int.sub_nonneg_of_le h)

theorem ix0 (i : Nat) : (0 : Int) ≤ 0 + (i : Int) := by rw [Int.zero_add]; exact Int.natCast_nonneg i
theorem ix63 {i : Nat} (h : i < 4) : 0 + (i : Int) < 2 ^ 63 := by omega
theorem ix5 {α : Type} {l : List α} {i : Nat} (h : l.length = 5) (hi : i < 4) : 0 + (i : Int) < (l.length : Int) := by omega
theorem ixr {n i : Nat} (h : i < ((n : Int) - 0).toNat) : 0 + (i : Int) < (n : Int) := by
  rw [Int.sub_zero, Int.toNat_natCast] at h
  rw [Int.zero_add]; exact Int.ofNat_lt.mpr h
theorem ixr2 {l n i : Nat} (e : l = n) (h : i < ((n : Int) - 0).toNat) : 0 + (i : Int) < (l : Int) := e ▸ ixr h
theorem ixr63 {n i : Nat} (hn : n ≤ 1000) (h : i < ((n : Int) - 0).toNat) : 0 + (i : Int) < 2 ^ 63 := Int.lt_of_lt_of_le (ixr h) (Int.le_trans (Int.ofNat_le.mpr hn) (by decide))
theorem ed_s {r n : Int} (h : r < n + 1) : 1 + r ≤ n + 1 := by rw [Int.add_comm]; exact Int.add_one_le_of_lt h
theorem len16 {a b : Nat} (e : a = b) (h : b ≤ 50) : a ≤ 16777216 := by omega
theorem sub1 {x : Int} (h : 1 ≤ x) : 0 ≤ x - 1 := Int.sub_nonneg_of_le h

/-! the frames' room and the C units -/
theorem room_of {dp k n : Nat} (h : dp + n < recursionLimit) (e : Nat.ble (1 + k) n = true) : dp + 1 + k < recursionLimit := by
  rw [Nat.add_assoc]
  exact Nat.lt_of_le_of_lt (Nat.add_le_add_left (Nat.le_of_ble_eq_true e) _) h
theorem room0 {dp n : Nat} (h : dp + n < recursionLimit) : dp < recursionLimit := Nat.lt_of_le_of_lt (Nat.le_add_right _ _) h
theorem units_of {un k n : Nat} (h : un + n < cLine) (e : Nat.ble (3 + k) n = true) : un + 3 + k < cLine := by
  rw [Nat.add_assoc]
  exact Nat.lt_of_le_of_lt (Nat.add_le_add_left (Nat.le_of_ble_eq_true e) _) h
theorem ground_lt {a b : Nat} (e : Nat.ble (a + 1) b = true) : a < b := Nat.le_of_ble_eq_true e


structure GapA where
  gt : Addr
  gd : Addr
  cl : Addr
structure GapS where
  k1 : Tok
  k2 : Tok
  k3 : Tok
  k4 : Tok
  room : Int
  t1 : Tok
  gs : Int
  t2 : Tok
  ge : Int
  t3 : Tok
  vs : List Value
  n : Nat
def GapA.ok (A : GapA) : Prop := @LT.lt Nat _ A.gd A.gt ∧ @LT.lt Nat _ A.gt A.cl
def gapD (P : Params) (A : GapA) (S : GapS) : List DictEntry :=
  [⟨PyData.keyHash P (Str.ofString "room"), .str (Str.ofString "room") S.k1, .int S.room S.t1⟩,
   ⟨PyData.keyHash P (Str.ofString "cells"), .str (Str.ofString "cells") S.k2, .ref A.cl⟩,
   ⟨PyData.keyHash P (Str.ofString "gap_start"), .str (Str.ofString "gap_start") S.k3, .int S.gs S.t2⟩,
   ⟨PyData.keyHash P (Str.ofString "gap_end"), .str (Str.ofString "gap_end") S.k4, .int S.ge S.t3⟩]
def gapL (P : Params) (A : GapA) (S : GapS) : List (Addr × Obj) := [(A.gt, instObj 255 A.gd), (A.gd, dictOf (gapD P A S) 4), (A.cl, listOf S.vs.toArray S.n)]

theorem sub_gap {P : Params} {A : GapA} {k1 k2 k3 k4 t1 t2 t3 : Tok} {room gs ge : Int} {vs : List Value} {n : Nat} {l : List (Addr × Obj)}
    (h : Sub [(A.gt, instObj 255 A.gd), (A.gd, dictOf [⟨PyData.keyHash P (Str.ofString "room"), .str (Str.ofString "room") k1, .int room t1⟩, ⟨PyData.keyHash P (Str.ofString "cells"), .str (Str.ofString "cells") k2, .ref A.cl⟩,
      ⟨PyData.keyHash P (Str.ofString "gap_start"), .str (Str.ofString "gap_start") k3, .int gs t2⟩, ⟨PyData.keyHash P (Str.ofString "gap_end"), .str (Str.ofString "gap_end") k4, .int ge t3⟩] 4), (A.cl, listOf vs.toArray n)] l) :
    Sub (gapL P A ⟨k1, k2, k3, k4, room, t1, gs, t2, ge, t3, vs, n⟩) l := h
theorem sub_gap4 {P : Params} {A : GapA} {k1 k2 k3 k4 t1 t2 t3 : Tok} {room gs ge : Int} {vs : List Value} {n : Nat} {l t : List (Addr × Obj)}
    (h : Sub ([(A.gt, instObj 255 A.gd), (A.gd, dictOf [⟨PyData.keyHash P (Str.ofString "room"), .str (Str.ofString "room") k1, .int room t1⟩, ⟨PyData.keyHash P (Str.ofString "cells"), .str (Str.ofString "cells") k2, .ref A.cl⟩,
      ⟨PyData.keyHash P (Str.ofString "gap_start"), .str (Str.ofString "gap_start") k3, .int gs t2⟩, ⟨PyData.keyHash P (Str.ofString "gap_end"), .str (Str.ofString "gap_end") k4, .int ge t3⟩] 4), (A.cl, listOf vs.toArray n)] ++ t) l) :
    Sub (gapL P A ⟨k1, k2, k3, k4, room, t1, gs, t2, ge, t3, vs, n⟩ ++ t) l := h

/-- the cells' ints; the gap lies within; the sizes are small -/
structure GapOk (S : GapS) (cs : List Int) : Prop where
  hI : IntsAre S.vs cs
  h0 : 0 ≤ S.gs
  h1 : S.gs ≤ S.ge
  h2 : S.ge ≤ cs.length
  r0 : 0 ≤ S.room
  r1 : S.room ≤ 2
  big : cs.length ≤ 1000

end Mine

end

section Lay1
open PySem PySem.Spec PySem.Calls PySem.W PyProof.Rows

theorem Mine.lay1 : True := by
  w_top off
  k_with "~L1:ktr_room" => k_extra "~w0"
  k_with "~L1:k_ne" => k_extra "~w1"
  k_with "~L1:ktr_room" => k_extra "~w2"
  k_with "~L1:ktr_units" => k_extra "~w2"
  k_with "~L1:ktr_room" => k_extra "~w3"
  k_with "~L1:ktr_units" => k_extra "~w4"
  k_with "~L1:is_list" => k_extra "~w5"
  k_with "~L1:k_enter" => k_extra "~w6"
  k_with "~L1:k_subL" => k_extra "~w7"
  k_with "~L1:setItem ref ref" => k_extra "~w8"
  k_with "~L1:k_clsL" => k_extra "~w9"
  k_with "~L1:k_offL" => k_extra "~w10"
  k_with "~L1:call ref" => k_extra "~w11"
  k_with "~L1:call ref" => k_extra "~w12"
  k_with "~L1:call ref" => k_extra "~w13"
  k_with "~L1:call ref" => k_extra "~w14"
  k_with "~L1:call builtin:sorted" => k_extra "~w15"
  k_with "~L1:call ref" => k_extra "~w16"
  trivial

namespace Mine
section
variable {prog : Program} {w : World} {A : Around} {E : Value → Shared → Prop} {s : Shared}

theorem slice_le {a b n m k : Nat} (h : a ≤ b) (hz : n + m ≤ k) : min a n - 0 + m + (min n n - b) ≤ k + 1 := by
  have e : min a n + (n - b) ≤ n := by
    rcases Nat.le_total b n with c | c
    · exact Nat.le_trans (Nat.add_le_add_right (Nat.le_trans (Nat.min_le_left ..) h) _) (Nat.le_of_eq (Nat.add_sub_cancel' c))
    · rw [Nat.sub_eq_zero_of_le c]; exact Nat.min_le_right ..
  rw [Nat.sub_zero, Nat.min_self, Nat.add_right_comm]
  exact Nat.le_succ_of_le (Nat.le_trans (Nat.add_le_add_right e _) hz)
/-- xs[a:b] = another list: what the machine does -/
theorem setItem_slice {l sl D : Addr} {o oD : Obj} {items its : Array Value} {n nD : Nat} {vl vu : Value} {lo hi : Option Int} {Q : Unit → Shared → Prop}
    (ho : s.heap.get? l = some o) (hc : o.cls = .type "list") (hd : o.data = .seq items n)
    (hoD : s.heap.get? D = some oD) (hcD : oD.cls = .type "list") (hdD : oD.data = .seq its nD)
    (hs : s.heap.IsSliceOf sl vl vu .none) (pl : IsPart vl lo) (pu : IsPart vu hi) {a b : Nat} (e : sliceBounds lo hi none items.size = ((a : Int), (b : Int), 1)) (hab : a ≤ b)
    (hz : items.size + its.size ≤ sizeLine)
    (h : Q () { s with heap := s.heap.update l (Obj.mapSeq fun xs => xs.extract 0 a ++ its ++ xs.extract b xs.size) }) :
    wpAny (model prog w) A (setItem (.ref l) (.ref sl) (.ref D)) Q E s := by
  have hl : s.TypeIs (.ref l) "list" := ⟨o, ho, hc⟩
  have hlD : s.TypeIs (.ref D) "list" := ⟨oD, hoD, hcD⟩
  obtain ⟨os, hos, hcs, hds⟩ := id hs
  have hTs : s.TypeIs (.ref sl) "slice" := ⟨os, hos, hcs⟩
  unfold setItem
  try with_reducible refine wpAny_holding ?_
  first | refine wpAny_bind (wpAny_pure ?_) | skip
  refine wpAny_bind (wpAny_sequenceKey hl (by decide) ?_)
  refine wpAny_bind (wpAny_callSpecial?_slot (name := Str.ofString "__setitem__") hl slot_list_setitem
    (wpAny_call_entry slot_list_setitem hl entry_list_setitem ?_ (args_list_setitem _ _ _)))
  show wpAny _ _ (Builtin.List.listSubscript? (.ref sl) >>= _) _ _ s
  refine wpAny_bind ?_
  unfold Builtin.List.listSubscript?
  refine wpAny_bind (wpAny_specialOf hTs slice_no_index ?_)
  simp only [Option.isNone_none, if_true]
  refine wpAny_pure ?_
  show wpAny _ _ (typeOf (.ref sl) >>= _) _ _ s
  refine wpAny_bind (wpAny_typeOf hTs ?_)
  rw [if_neg (by decide)]
  rw [listSliceParts_eq]
  refine wpAny_bind (wpAny_bind (wpAny_field hos hds (x := .none) rfl (wpAny_bind (wpAny_listPart .none ?_))))
  rw [if_neg (show ¬ ((rawPart none == rawInt 0) = true) from Bool.false_ne_true)]
  refine wpAny_bind (wpAny_field hos hds (x := vl) rfl (wpAny_bind (wpAny_listPart pl ?_)))
  refine wpAny_bind (wpAny_field hos hds (x := vu) rfl (wpAny_bind (wpAny_listPart pu (wpAny_pure ?_))))
  have hlong : Builtin.List.listTooLong (items.size + its.size) = false := by unfold Builtin.List.listTooLong; exact decide_eq_false (by omega)
  have em : (max (a : Int) (b : Int)).toNat = b := by rw [Int.max_eq_right (Int.ofNat_le.mpr hab)]; rfl
  have ea : (a : Int).toNat = a := rfl
  split
  · refine wpAny_bind (wpAny_listItems hoD hdD ?_)
    refine wpAny_bind (wpAny_listItems ho hd ?_)
    refine wpAny_bind (wpAny_of_eq (sliceIndices_raw lo hi none items.size (by simp)) ?_)
    rw [e]
    dsimp only
    rw [if_pos (by rfl)]
    refine wpAny_bind (wpAny_rule ?_)
    rw [hlong]
    simp only [Bool.false_eq_true, if_false]
    rw [em, ea]
    refine wpAny_bind ?_
    unfold Builtin.List.listUpdate
    dsimp only
    refine wpAny_updateSeq ho hd ?_ (by omega) ?_
    · refine wpAny_bind (wpAny_letGo ?_)
      exact wpAny_pure ⟨.none, rfl, wpAny_pure h⟩
    · simp only [Array.size_append, Array.size_extract]
      exact slice_le hab hz
  · unfold Builtin.List.listAllItems
    refine wpAny_bind (wpAny_bind (wpAny_typeOf hlD ?_))
    rw [if_pos (by rfl)]
    refine wpAny_listItems hoD hdD ?_
    refine wpAny_bind (wpAny_listItems ho hd ?_)
    refine wpAny_bind (wpAny_of_eq (sliceIndices_raw lo hi none items.size (by simp)) ?_)
    rw [e]
    dsimp only
    rw [if_pos (by rfl)]
    refine wpAny_bind (wpAny_rule ?_)
    rw [hlong]
    simp only [Bool.false_eq_true, if_false]
    rw [em, ea]
    refine wpAny_bind ?_
    unfold Builtin.List.listUpdate
    dsimp only
    refine wpAny_updateSeq ho hd ?_ (by omega) ?_
    · refine wpAny_bind (wpAny_letGo ?_)
      exact wpAny_pure ⟨.none, rfl, wpAny_pure h⟩
    · simp only [Array.size_append, Array.size_extract]
      exact slice_le hab hz
end

theorem bounds_nat {x y : Int} {n : Nat} (h0 : 0 ≤ x) (h1 : x ≤ y) (h2 : y ≤ n) : sliceBounds (some x) (some y) none n = ((x.toNat : Int), (y.toNat : Int), 1) := by
  have hx : ¬ x < 0 := Int.not_lt.mpr h0
  have hy : ¬ y < 0 := Int.not_lt.mpr (Int.le_trans h0 h1)
  simp only [sliceBounds, Option.getD_none, hx, hy, if_false, show (1 : Int) > 0 by decide, if_true]
  refine Prod.ext ?_ (Prod.ext ?_ rfl)
  · show max 0 (min x n) = (x.toNat : Int); rw [Int.min_eq_left (Int.le_trans h1 h2), Int.max_eq_right h0, Int.toNat_of_nonneg h0]
  · show max 0 (min y n) = (y.toNat : Int); rw [Int.min_eq_left h2, Int.max_eq_right (Int.le_trans h0 h1), Int.toNat_of_nonneg (Int.le_trans h0 h1)]

section
variable {prog : Program} {w : World} {A : Around} {E : Value → Shared → Prop} {s : Shared} {h₀ : Heap} {L l D : Addr} {m : Str → Option Value} {news : List (Addr × Obj)} {g : Obj → List (Addr × Obj)} {vs us : List Value} {ns ms : List Int} {n nD : Nat} {x y : Int} {tx ty : Tok} {Q : Unit → Shared → Prop}
theorem setSlice_K (F : Fr h₀ L s.heap m) (N : News h₀ L s.heap news) (hU : UpdF l (listOf vs.toArray n) news g) (hD : (D, listOf us.toArray nD) ∈ news) (hv : IntsAre vs ns) (hu : IntsAre us ms)
    (h0 : 0 ≤ x) (h1 : x ≤ y) (h2 : y ≤ ns.length) (hz : ns.length + ms.length ≤ 100000)
    (h : ∀ h' ws n', Fr h₀ L h' m → News h₀ L h' (g (listOf (List.toArray ws) n')) → IntsAre ws (ns.take x.toNat ++ ms ++ ns.drop y.toNat) → Q () { s with heap := h' }) :
    wpAny (model prog w) A (setItem (.ref l) (.ref s.heap.objs.size) (.ref D)) Q E { s with heap := s.heap.push { cls := .type "slice", data := .fields #[.int x tx, .int y ty, .none] } } := by
  obtain ⟨own, rest, rfl, hg, hn1, hn2⟩ := hU.split
  have hl := N (l, listOf vs.toArray n) (List.mem_append_right _ (.head _))
  have hd := N _ hD
  have hb : sliceBounds (some x) (some y) none vs.toArray.size = ((x.toNat : Int), (y.toNat : Int), 1) := bounds_nat h0 h1 (by rw [List.size_toArray, hv.length]; exact h2)
  have F1 := F.push { cls := .type "slice", data := .fields #[.int x tx, .int y ty, .none] }
  have N1 : News h₀ L (s.heap.push { cls := .type "slice", data := .fields #[.int x tx, .int y ty, .none] }) (own ++ (l, listOf vs.toArray n) :: rest) := N.grown fun _ _ e => Heap.get?_push_of_some _ e
  refine setItem_slice (s := { s with heap := s.heap.push { cls := .type "slice", data := .fields #[.int x tx, .int y ty, .none] } }) (Heap.get?_push_of_some _ hl.1) rfl rfl (Heap.get?_push_of_some _ hd.1) rfl rfl (Heap.IsSliceOf.new ..) (.int x tx) (.int y ty) hb (Int.toNat_le_toNat h1)
    (by rw [List.size_toArray, List.size_toArray, hv.length, hu.length, sizeLine_eq]; omega) ?_
  obtain ⟨n', e⟩ : ∃ n', Obj.mapSeq (fun xs => xs.extract 0 x.toNat ++ us.toArray ++ xs.extract y.toNat xs.size) (listOf vs.toArray n) = listOf (vs.take x.toNat ++ us ++ vs.drop y.toNat).toArray n' := by
    have ea : (vs.toArray.extract 0 x.toNat ++ us.toArray ++ vs.toArray.extract y.toNat vs.toArray.size) = (vs.take x.toNat ++ us ++ vs.drop y.toNat).toArray := by
      apply Array.ext'
      simp
      exact List.take_of_length_le (by rw [List.length_drop]; exact Nat.le_refl _)
    exact ⟨_, congrArg (fun a : Array Value => ({ cls := .type "list", data := .seq a (if (vs.toArray.extract 0 x.toNat ++ us.toArray ++ vs.toArray.extract y.toNat vs.toArray.size).size == vs.toArray.size then n else n + 1) } : Obj)) ea⟩
  obtain ⟨F2, N2⟩ := news_upd F1 N1 hn1 hn2 e rfl
  refine h _ _ n' F2 (by rw [hg]; exact N2) ?_
  exact ((hv.take _).append hu).append (hv.drop _)
end

section
variable {prog : Program} {w : World} {A : Around} {E : Value → Shared → Prop} {s : Shared} {h₀ : Heap} {L d : Addr} {m : Str → Option Value} {news : List (Addr × Obj)} {o : Obj} {kvs : List (Int × Value)} {Q : Value → Shared → Prop}
theorem ints_by : ∀ {vs : List Value} {ks : List Int}, vs.length = ks.length → (∀ (j : Nat) (v : Value), vs[j]? = some v → ∃ k : Int, ks[j]? = some k ∧ Value.isInt k v = true) → IntsAre vs ks
  | [], [], _, _ => .nil
  | v :: vs, k :: ks, hl, h => by
    obtain ⟨k', e, hk⟩ := h 0 v rfl
    obtain rfl : k = k' := Option.some.inj e
    obtain ⟨t, rfl⟩ := Value.isInt_shape hk
    exact .cons k t (ints_by (Nat.succ.inj hl) fun j v hv => h (j + 1) v hv)
theorem sorted_rows (hh : A.handled = none) (F : Fr h₀ L s.heap m) (N : News h₀ L s.heap news) (hm : (d, o) ∈ news) (hd : o.IsDictOf (PySem.intKind prog w) kvs) (lo : (d == sysModules) = false) (hn : kvs.length ≤ 64)
    (h : ∀ D h' tk vs, Fr h₀ L h' m → News h₀ L h' ((D, listOf (List.toArray vs) 0) :: news) → (∀ q ∈ news, q.1 < D) → IntsAre vs (kvs.map (·.1)) →
      wpAny (model prog w) A.in1 (call (.builtin "list.sort") [.ref D]) (fun _ s' => Q (.ref D) s') E { s with heap := h', toks := tk }) :
    wpAny (model prog w) A (call (.builtin "sorted") [.ref d]) Q E s := by
  have hD : s.heap.DictOf (PySem.intKind prog w) d kvs := Heap.dictOf_iff.mpr ⟨o, (N _ hm).1, hd⟩
  obtain ⟨ep, hat⟩ := hD.dictAt
  refine kdu_sorted (kdl_dict (knd := PySem.intKind prog w) (kvs := kvs) (ep := ep) lo) hh F N hat (by rw [sizeLine_eq]; omega) fun B h' tk vs F' N' l1 hl hv => h B h' tk vs F' N' l1 (ints_by (by rw [List.length_map]; exact hl) fun j v e => ?_)
  obtain ⟨k, x, hx, hk⟩ := hv j v e
  exact ⟨k, by rw [List.getElem?_map, hx]; rfl, hk⟩
end


end Mine

namespace Mine

structure MkA where
  kk : Addr
  kd : Addr
  rows : Addr
  d0 : Addr
  m0 : Addr
  d1 : Addr
  m1 : Addr
  d2 : Addr
  m2 : Addr
  d3 : Addr
  m3 : Addr
def RowsIs (w : World) (M : MkA) (o : Obj) : Prop := o.IsDictOf (PySem.intKind PG w) [(0, .ref M.m0), (1, .ref M.m1), (2, .ref M.m2), (3, .ref M.m3)]
def rowsL (P : Params) (M : MkA) (k : Tok) (o : Obj) : List (Addr × Obj) := [(M.kk, instObj 400 M.kd), (M.kd, dictOf [⟨PyData.keyHash P (Str.ofString "rows"), .str (Str.ofString "rows") k, .ref M.rows⟩] 1), (M.rows, o)]

theorem ints_four {vs : List Value} (h : IntsAre vs [0, 1, 2, 3]) : ∃ t0 t1 t2 t3, vs = [.int 0 t0, .int 1 t1, .int 2 t2, .int 3 t3] := by
  rcases h with _ | ⟨_, t0, h⟩
  rcases h with _ | ⟨_, t1, h⟩
  rcases h with _ | ⟨_, t2, h⟩
  rcases h with _ | ⟨_, t3, h⟩
  cases h
  exact ⟨t0, t1, t2, t3, rfl⟩

theorem mk_numbers (w : World) (M : MkA) (k : Tok) (o : Obj) (ho : RowsIs w M o) (hlo : (M.rows == sysModules) = false) :
    Cal w 355 [.ref M.kk] 1 20 (rowsL w.params M k o) (X := Addr × Tok × Tok × Tok × Tok × Nat) (fun r => .ref r.1) (fun r => (r.1, listOf #[.int 0 r.2.1, .int 1 r.2.2.1, .int 2 r.2.2.2.1, .int 3 r.2.2.2.2.1] r.2.2.2.2.2) :: rowsL w.params M k o) (fun rest r => ∀ p ∈ rowsL w.params M k o ++ rest, p.1 < r.1) := by
  have hfill : hd.heap_1 = hd.heap_1 ∧ PySem.Challenge.rw_pq0288_01 = PySem.Challenge.rw_pq0288_01 := by k_fill; exact ⟨rfl, rfl⟩
  clear hfill
  have ho' : o.IsDictOf (PySem.intKind PG w) [(0, .ref M.m0), (1, .ref M.m1), (2, .ref M.m2), (3, .ref M.m3)] := ho
  intro mean mg mb dp un gdd cn csc a ccd cll outer A₀ base h₀ L m s rest Q E B F KX N off T hk hdp hun hret
  refine wpAny_call ?_
  dsimp only [rowsL, List.cons_append, List.nil_append] at N
  k_dflt cell_enter
  k_steps
  rename Fr _ _ _ _ => fE
  rename News _ _ _ _ => nE
  rename IntsAre _ _ => iE
  rename List.Perm _ _ => pE
  rename List.Pairwise _ _ => wE
  have e := List.Perm.eq_of_pairwise (le := fun x y : Int => x ≤ y) (fun a b _ _ h1 h2 => Int.le_antisymm h1 h2) wE (by simp) pE
  obtain ⟨t0, t1, t2, t3, rfl⟩ := ints_four (ints_cast iE e)
  refine hret (_, t0, t1, t2, t3, _) _ _ (fun p hp => ?_) fE nE
  rename _ ∧ _ ∧ _ ∧ AllLt _ _ => lE
  rcases hp with _ | ⟨_, hp⟩
  · exact lE.1
  rcases hp with _ | ⟨_, hp⟩
  · exact lE.2.1
  rcases hp with _ | ⟨_, hp⟩
  · exact lE.2.2.1
  exact allLt_at lE.2.2.2 p hp

/-- one marker -/
structure MkR where
  k1 : Tok
  k2 : Tok
  k3 : Tok
  k4 : Tok
  num : Int
  t1 : Tok
  adv : Bool
  buf : Value
  pos : Int
  t2 : Tok
def mkD (P : Params) (r : MkR) : List DictEntry :=
  [⟨PyData.keyHash P (Str.ofString "number"), .str (Str.ofString "number") r.k1, .int r.num r.t1⟩,
   ⟨PyData.keyHash P (Str.ofString "advances"), .str (Str.ofString "advances") r.k2, .bool r.adv⟩,
   ⟨PyData.keyHash P (Str.ofString "buffer"), .str (Str.ofString "buffer") r.k3, r.buf⟩,
   ⟨PyData.keyHash P (Str.ofString "position"), .str (Str.ofString "position") r.k4, .int r.pos r.t2⟩]
structure MkS where
  k : Tok
  o : Obj
  r0 : MkR
  r1 : MkR
  r2 : MkR
  r3 : MkR
def MkR.to (r : MkR) (p : Int) (t : Tok) : MkR := { r with pos := p, t2 := t }
def mksL (P : Params) (M : MkA) (K : MkS) : List (Addr × Obj) :=
  [(M.m0, instObj 332 M.d0), (M.d0, dictOf (mkD P K.r0) 4), (M.m1, instObj 332 M.d1), (M.d1, dictOf (mkD P K.r1) 4), (M.m2, instObj 332 M.d2), (M.d2, dictOf (mkD P K.r2) 4), (M.m3, instObj 332 M.d3), (M.d3, dictOf (mkD P K.r3) 4)]
def mkL (P : Params) (M : MkA) (K : MkS) : List (Addr × Obj) := rowsL P M K.k K.o ++ mksL P M K
def MkA.ok (M : MkA) : Prop := @LT.lt Nat _ M.kd M.kk ∧ @LT.lt Nat _ M.kk M.rows ∧ @LT.lt Nat _ M.rows M.d0 ∧ @LT.lt Nat _ M.d0 M.m0 ∧ @LT.lt Nat _ M.m0 M.d1 ∧ @LT.lt Nat _ M.d1 M.m1 ∧ @LT.lt Nat _ M.m1 M.d2 ∧ @LT.lt Nat _ M.d2 M.m2 ∧ @LT.lt Nat _ M.m2 M.d3 ∧ @LT.lt Nat _ M.d3 M.m3
/-- the positions turned by f, whatever else -/
def MkS.by (K K' : MkS) (f : Int → Bool → Int) : Prop := K'.k = K.k ∧ K'.o = K.o ∧ (∃ t, K'.r0 = K.r0.to (f K.r0.pos K.r0.adv) t) ∧ (∃ t, K'.r1 = K.r1.to (f K.r1.pos K.r1.adv) t) ∧ (∃ t, K'.r2 = K.r2.to (f K.r2.pos K.r2.adv) t) ∧ ∃ t, K'.r3 = K.r3.to (f K.r3.pos K.r3.adv) t

def insF (x y : Int) (b : Bool) (p : Int) (a : Bool) : Int := if x < p ∨ (p = x ∧ (b = true ∨ a = true)) then p + y - x else p
def delF (x y : Int) (p : Int) (_ : Bool) : Int := if y < p then p - (y - x) else if x < p then x else p
def repF (x y n : Int) (p : Int) (_ : Bool) : Int := if y ≤ p then p + n - (y - x) else if x < p then x else p
section
variable {x y n p : Int} {a b : Bool}
theorem ins_a (h : x < p) : p + y - x = insF x y b p a := by unfold insF; rw [if_pos (.inl h)]
theorem ins_b (h : p = x) (hb : b = true) : p + y - x = insF x y b p a := by unfold insF; rw [if_pos (.inr ⟨h, .inl hb⟩)]
theorem ins_c (h : p = x) (ha : a = true) : p + y - x = insF x y b p a := by unfold insF; rw [if_pos (.inr ⟨h, .inr ha⟩)]
theorem ins_d (h : ¬ x < p) (h' : ¬ p = x) : p = insF x y b p a := by unfold insF; rw [if_neg (fun q => q.elim h fun q => h' q.1)]
theorem ins_e (h : ¬ x < p) (hb : b = false) (ha : a = false) : p = insF x y b p a := by subst hb ha; unfold insF; rw [if_neg (fun q => q.elim h fun q => q.2.elim Bool.false_ne_true Bool.false_ne_true)]
theorem del_a (h : y < p) : p - (y - x) = delF x y p a := by unfold delF; rw [if_pos h]
theorem del_b (h : ¬ y < p) (h' : x < p) : x = delF x y p a := by unfold delF; rw [if_neg h, if_pos h']
theorem del_c (h : ¬ y < p) (h' : ¬ x < p) : p = delF x y p a := by unfold delF; rw [if_neg h, if_neg h']
theorem rep_a (h : y ≤ p) : p + n - (y - x) = repF x y n p a := by unfold repF; rw [if_pos h]
theorem rep_b (h : ¬ y ≤ p) (h' : x < p) : x = repF x y n p a := by unfold repF; rw [if_neg h, if_pos h']
theorem rep_c (h : ¬ y ≤ p) (h' : ¬ x < p) : p = repF x y n p a := by unfold repF; rw [if_neg h, if_neg h']
end

theorem sub_mk {P : Params} {M : MkA} {k : Tok} {o : Obj} {r0 r1 r2 r3 : MkR} {l : List (Addr × Obj)}
    (h : Sub [(M.kk, instObj 400 M.kd), (M.kd, dictOf [⟨PyData.keyHash P (Str.ofString "rows"), .str (Str.ofString "rows") k, .ref M.rows⟩] 1), (M.rows, o), (M.m0, instObj 332 M.d0), (M.d0, dictOf (mkD P r0) 4), (M.m1, instObj 332 M.d1), (M.d1, dictOf (mkD P r1) 4), (M.m2, instObj 332 M.d2), (M.d2, dictOf (mkD P r2) 4), (M.m3, instObj 332 M.d3), (M.d3, dictOf (mkD P r3) 4)] l) :
    Sub (mkL P M ⟨k, o, r0, r1, r2, r3⟩) l := h

end Mine

end Lay1

section Lay2
open PySem PySem.Spec PySem.Calls PySem.W PyProof.Rows

theorem Mine.lay2 : True := by
  w_top off
  k_with "~L2:ktr_room" => k_extra "~w0"
  k_with "~L2:k_ne" => k_extra "~w1"
  k_with "~L2:ktr_room" => k_extra "~w2"
  k_with "~L2:ktr_units" => k_extra "~w2"
  k_with "~L2:ktr_room" => k_extra "~w3"
  k_with "~L2:ktr_units" => k_extra "~w4"
  k_with "~L2:is_list" => k_extra "~w5"
  k_with "~L2:k_enter" => k_extra "~w6"
  k_with "~L2:k_subL" => k_extra "~w7"
  k_with "~L2:setItem ref ref" => k_extra "~w8"
  k_with "~L2:k_clsL" => k_extra "~w9"
  k_with "~L2:k_offL" => k_extra "~w10"
  k_with "~L2:call ref" => k_extra "~w11"
  k_with "~L2:call ref" => k_extra "~w12"
  k_with "~L2:call ref" => k_extra "~w13"
  k_with "~L2:call ref" => k_extra "~w14"
  k_with "~L2:call builtin:sorted" => k_extra "~w15"
  k_with "~L2:call ref" => k_extra "~w16"
  trivial

namespace Mine

theorem lay2_Mk6_1 : True := by
  k_with "~L2:setItem ref int" => k_extra "~w17"
  trivial

theorem mk_put (w : World) (M : MkA) (k : Tok) (o : Obj) (kvs : List (Int × Value)) (ho : o.IsDictOf (PySem.intKind PG w) kvs) (hk : kvs.length ≤ 4) (m d : Addr) (r : MkR) (p : Int) (tp : Tok) (a1 : @LT.lt Nat _ M.kd M.kk) (a2 : @LT.lt Nat _ M.kk M.rows) (a3 : @LT.lt Nat _ M.rows d) (a4 : @LT.lt Nat _ d m) :
    Cal w 362 [.ref M.kk, .ref m, .int p tp] 4 60 ([(m, instObj 332 d), (d, dictOf (mkD w.params r) 4)] ++ rowsL w.params M k o) (X := MkR × Obj) (fun _ => .none) (fun x => [(m, instObj 332 d), (d, dictOf (mkD w.params x.1) 4)] ++ rowsL w.params M k x.2) (fun _ x => x.1.num = r.num ∧ x.1.adv = r.adv ∧ x.1.pos = p ∧ x.2.IsDictOf (PySem.intKind PG w) (stored kvs r.num (.ref m))) := by
  have hfill : hd.heap_1 = hd.heap_1 ∧ PySem.Challenge.rw_pq0288_01 = PySem.Challenge.rw_pq0288_01 := by k_fill; exact ⟨rfl, rfl⟩
  clear hfill
  have hz : kvs.length ≤ sizeLine := by rw [sizeLine_eq]; omega
  intro mean mg mb dp un gdd cn csc a ccd cll outer A₀ base h₀ L m' s rest Q E B F KX N off T hk hdp hun hret
  refine wpAny_call ?_
  k_dflt k_enter
  k_steps
  rename Fr _ _ _ _ => fE
  rename News _ _ _ _ => nE
  refine Cal.done rest hret (⟨_, _, _, _, r.num, _, r.adv, _, p, _⟩, _) fE nE (by dsimp only [rowsL, mkD, List.cons_append, List.nil_append]; exact Sub.refl _) ⟨?_, ?_, ?_, ?_⟩
  · exact rfl
  · exact rfl
  · exact rfl
  · assumption

theorem mk_put1 (w : World) (M : MkA) (k : Tok) (o : Obj) (kvs : List (Int × Value)) (ho : o.IsDictOf (PySem.intKind PG w) kvs) (hk : kvs.length ≤ 4) (m d : Addr) (k1 k2 k3 k4 t1 t2 : Tok) (num pos : Int) (adv : Bool) (buf : Value) (p : Int) (tp : Tok) (a1 : @LT.lt Nat _ M.kd M.kk) (a2 : @LT.lt Nat _ M.kk M.rows) (a3 : @LT.lt Nat _ M.rows d) (a4 : @LT.lt Nat _ d m) :
    Cal w 362 [.ref M.kk, .ref m, .int p tp] 4 60 ([(m, instObj 332 d)] ++ [(d, dictOf [⟨PyData.keyHash w.params (Str.ofString "number"), .str (Str.ofString "number") k1, .int num t1⟩,
   ⟨PyData.keyHash w.params (Str.ofString "advances"), .str (Str.ofString "advances") k2, .bool adv⟩,
   ⟨PyData.keyHash w.params (Str.ofString "buffer"), .str (Str.ofString "buffer") k3, buf⟩,
   ⟨PyData.keyHash w.params (Str.ofString "position"), .str (Str.ofString "position") k4, .int pos t2⟩] 4)] ++ rowsL w.params M k o) (X := MkR × Obj) (fun _ => .none) (fun x => (m, instObj 332 d) :: (d, dictOf (mkD w.params x.1) 4) :: rowsL w.params M k x.2) (fun _ x => x.1.num = num ∧ x.1.adv = adv ∧ x.1.pos = p ∧ x.2.IsDictOf (PySem.intKind PG w) (stored kvs num (.ref m))) :=
  mk_put w M k o kvs ho hk m d ⟨k1, k2, k3, k4, num, t1, adv, buf, pos, t2⟩ p tp a1 a2 a3 a4

end Mine

end Lay2

section Lay3
open PySem PySem.Spec PySem.Calls PySem.W PyProof.Rows

theorem Mine.lay3 : True := by
  w_top off
  k_with "~L3:ktr_room" => k_extra "~w0"
  k_with "~L3:k_ne" => k_extra "~w1"
  k_with "~L3:ktr_room" => k_extra "~w2"
  k_with "~L3:ktr_units" => k_extra "~w2"
  k_with "~L3:ktr_room" => k_extra "~w3"
  k_with "~L3:ktr_units" => k_extra "~w4"
  k_with "~L3:is_list" => k_extra "~w5"
  k_with "~L3:k_enter" => k_extra "~w18"
  k_with "~L3:k_subL" => k_extra "~w7"
  k_with "~L3:setItem ref ref" => k_extra "~w8"
  k_with "~L3:k_clsL" => k_extra "~w9"
  k_with "~L3:k_offL" => k_extra "~w10"
  k_with "~L3:call ref" => k_extra "~w11"
  k_with "~L3:call ref" => k_extra "~w12"
  k_with "~L3:call ref" => k_extra "~w13"
  k_with "~L3:call ref" => k_extra "~w14"
  k_with "~L3:call builtin:sorted" => k_extra "~w15"
  k_with "~L3:call ref" => k_extra "~w19"
  trivial

namespace Mine
theorem gap_size (w : World) (A : GapA) (S : GapS) (cs : List Int) (G : GapOk S cs) :
    Cal w 189 [.ref A.gt] 1 8 (gapL w.params A S) (X := Tok) (fun t => .int ((cs.length : Int) - S.ge + S.gs) t) (fun _ => gapL w.params A S) (fun _ _ => True) := by
  have hfill : hd.heap_1 = hd.heap_1 ∧ PySem.Challenge.rw_pq0288_01 = PySem.Challenge.rw_pq0288_01 := by k_fill; exact ⟨rfl, rfl⟩
  clear hfill
  obtain ⟨hI, g0, g1, g2, g3, g4, g5⟩ := G
  intro mean mg mb dp un gdd cn csc a ccd cll outer A₀ base h₀ L m s rest Q E B F KX N off T hk hdp hun hret
  refine wpAny_call ?_
  k_dflt k_enter
  k_steps
  rename Fr _ _ _ _ => fE
  rename News _ _ _ _ => nE
  exact Cal.done rest hret _ fE nE (Sub.refl _) trivial

end Mine

end Lay3

namespace Mine
/-! plain lists -/
theorem take_app_le {a b : List Int} {k : Nat} (h : k ≤ a.length) : (a ++ b).take k = a.take k := List.take_append_of_le_length h
theorem drop_app_ge {a b : List Int} {k : Nat} (h : k = a.length) : (a ++ b).drop k = b := by subst h; exact List.drop_left
theorem take_app_ge {a b : List Int} {k : Nat} (h : k = a.length) : (a ++ b).take k = a := by subst h; exact List.take_left
theorem take_more (l : List Int) {x g : Nat} (h : x ≤ g) : l.take x ++ (l.drop x).take (g - x) = l.take g := by
  rw [← List.take_add, Nat.add_sub_cancel' h]
theorem drop_more (l : List Int) (e k : Nat) : (l.drop e).take k ++ l.drop (e + k) = l.drop e := by
  rw [← List.drop_drop]
  exact List.take_append_drop k _
theorem nsub {a b c : Nat} (h : a = b + c) : a - b = c := by subst h; exact Nat.add_sub_cancel_left ..
theorem isub {a b : Nat} (c : Nat) (h : a = b + c) : ((a : Int) - (b : Int)).toNat = c := by rw [Int.toNat_sub]; exact nsub h
theorem seg_l {l : List Int} {x b : Nat} (h : x + b ≤ l.length) : ((l.drop x).take b).length = b := List.length_take_of_le (by rw [List.length_drop]; exact Nat.le_sub_of_add_le' h)
theorem drop_add_app {a b : List Int} {k j : Nat} (h : a.length = k) : (a ++ b).drop (k + j) = b.drop j := by subst h; exact List.drop_length_add_append ..
theorem take_add_app {a b : List Int} {k j : Nat} (h : a.length = k) : (a ++ b).take (k + j) = a ++ b.take j := by subst h; exact List.take_length_add_append ..
theorem take_le (l : List Int) (x c : Nat) : (l.take (x + c)).take x = l.take x := by rw [List.take_take, Nat.min_eq_left (Nat.le_add_right ..)]
/-- natural numbers for ints in order -/
theorem up0 {x : Int} (h : 0 ≤ x) : ∃ n : Nat, x = n := Int.eq_ofNat_of_zero_le h
theorem up1 {n : Nat} {y : Int} (h : (n : Int) ≤ y) : ∃ k : Nat, y = ((n + k : Nat) : Int) := (Int.le.dest h).imp fun _ e => e.symm

theorem i1 (a : Nat) : (((1 + a : Nat) : Int) - 1).toNat = a := isub (b := 1) a rfl
theorem span (x b : Nat) : ((x + b : Nat) : Int) - (x : Int) = b := by rw [Int.natCast_add, Int.add_comm, Int.add_sub_cancel]
theorem span2 (a b : Nat) : ((1 + (a + b) : Nat) : Int) - ((1 + a : Nat) : Int) = b := by rw [← Nat.add_assoc, span]
/-- the places of a stretch of the text as natural numbers -/
theorem up2 {t : List Int} {x z : Int} (h0 : 1 ≤ x) (h : x ≤ z) (h3 : z ≤ t.length + 1) : ∃ a b : Nat, x = ((1 + a : Nat) : Int) ∧ z = ((1 + (a + b) : Nat) : Int) ∧ a + b ≤ t.length := by
  obtain ⟨a, rfl⟩ := up1 (n := 1) h0
  obtain ⟨b, rfl⟩ := up1 h
  have h3 : 1 + a + b ≤ t.length + 1 := Int.ofNat_le.mp h3
  rw [Nat.add_assoc, Nat.add_comm] at h3
  exact ⟨a, b, rfl, by rw [Nat.add_assoc], Nat.le_of_succ_le_succ h3⟩
theorem cut_len {t : List Int} {x z : Int} (h0 : 1 ≤ x) (h : x ≤ z) (h3 : z ≤ t.length + 1) : ((((t.drop (x - 1).toNat).take (z - x).toNat).length : Nat) : Int) = z - x := by
  obtain ⟨a, b, rfl, rfl, hl⟩ := up2 h0 h h3
  rw [span2, i1, Int.toNat_natCast, seg_l hl]

theorem move1N (cs : List Int) (x b c : Nat) (h : x + b + c ≤ cs.length) :
    let M := (cs.drop x).take (min (x + b) cs.length - x)
    let new := cs.take (((x + b + c : Nat) : Int) - (M.length : Int)).toNat ++ M ++ cs.drop (x + b + c)
    (M.length : Int) = ((x + b : Nat) : Int) - x ∧ new.length = cs.length ∧ new.take x ++ new.drop (((x + b + c : Nat) : Int) - (M.length : Int)).toNat = cs.take (x + b) ++ cs.drop (x + b + c) := by
  obtain ⟨d, hd⟩ := Nat.exists_eq_add_of_le h
  have hb : x + b ≤ cs.length := Nat.le_trans (Nat.le_add_right ..) h
  rw [Nat.min_eq_left hb, Nat.add_sub_cancel_left]
  have lM := seg_l hb
  have ec : x + b + c = x + c + b := Nat.add_right_comm ..
  have hc : x + c ≤ cs.length := Nat.le_trans (by rw [ec]; exact Nat.le_add_right ..) h
  have lt : (cs.take (x + c)).length = x + c := List.length_take_of_le hc
  intro M new
  have eN : new = cs.take (x + c) ++ (M ++ cs.drop (x + b + c)) := by
    show cs.take (((x + b + c : Nat) : Int) - (M.length : Int)).toNat ++ M ++ _ = _
    rw [show M.length = b from lM, isub (x + c) (by rw [ec, Nat.add_comm]), List.append_assoc]
  have eM : M = (cs.drop x).take b := rfl
  clear_value new M
  rw [eN, eM, lM, isub (x + c) (by rw [ec, Nat.add_comm])]
  refine ⟨(Int.add_sub_cancel b x ▸ by rw [Int.add_comm]; rfl), ?_, ?_⟩
  · rw [List.length_append, List.length_append, lt, lM, List.length_drop, hd, Nat.add_sub_cancel_left, ← Nat.add_assoc, ec]
  · rw [drop_app_ge lt.symm, take_app_le (by rw [lt]; exact Nat.le_add_right ..), take_le, ← List.append_assoc, ← List.take_add]
theorem move1 {cs : List Int} {gs ge x : Int} (h0 : 0 ≤ x) (h1 : x ≤ gs) (h2 : gs ≤ ge) (h3 : ge ≤ cs.length) :
    let M := (cs.drop x.toNat).take (min gs.toNat cs.length - x.toNat)
    let new := cs.take (ge - (M.length : Int)).toNat ++ M ++ cs.drop ge.toNat
    (M.length : Int) = gs - x ∧ new.length = cs.length ∧ new.take x.toNat ++ new.drop (ge - (M.length : Int)).toNat = cs.take gs.toNat ++ cs.drop ge.toNat := by
  obtain ⟨x, rfl⟩ := up0 h0
  obtain ⟨b, rfl⟩ := up1 h1
  obtain ⟨c, rfl⟩ := up1 h2
  exact move1N cs x b c (Int.ofNat_le.mp h3)

theorem move2N (cs : List Int) (g b c : Nat) (h : g + c + b ≤ cs.length) :
    let M := (cs.drop (g + c)).take (min (g + c + b) cs.length - (g + c))
    let new := cs.take g ++ M ++ cs.drop (g + M.length)
    (M.length : Int) = ((g + b : Nat) : Int) - g ∧ new.length = cs.length ∧ new.take (g + b) ++ new.drop (g + c + M.length) = cs.take g ++ cs.drop (g + c) := by
  obtain ⟨d, hd⟩ := Nat.exists_eq_add_of_le h
  rw [Nat.min_eq_left h, Nat.add_sub_cancel_left]
  have lM := seg_l h
  have hc : g + c ≤ cs.length := Nat.le_trans (Nat.le_add_right ..) h
  have hg : g ≤ cs.length := Nat.le_trans (Nat.le_add_right ..) hc
  have lt : (cs.take g).length = g := List.length_take_of_le hg
  intro M new
  have eN : new = cs.take g ++ M ++ cs.drop (g + b) := by
    show cs.take g ++ M ++ cs.drop (g + M.length) = _
    rw [show M.length = b from lM]
  have eM : M = (cs.drop (g + c)).take b := rfl
  clear_value new M
  rw [eN, eM, lM]
  have l2 : (cs.take g ++ (cs.drop (g + c)).take b).length = g + b := by rw [List.length_append, lt, lM]
  refine ⟨(Int.add_sub_cancel b g ▸ by rw [Int.add_comm]; rfl), ?_, ?_⟩
  · rw [List.length_append, l2, List.length_drop, Nat.add_sub_cancel' (Nat.le_trans (by rw [Nat.add_right_comm]; exact Nat.le_add_right ..) h)]
  · rw [take_app_ge l2.symm, show g + c + b = g + b + c from Nat.add_right_comm .., drop_add_app l2, List.drop_drop, List.append_assoc, show g + b + c = g + c + b from Nat.add_right_comm .., drop_more]
theorem move2 {cs : List Int} {gs ge x : Int} (h0 : 0 ≤ gs) (h1 : gs ≤ x) (h2 : gs ≤ ge) (h3 : ge ≤ cs.length) (h4 : x ≤ cs.length - ge + gs) :
    let M := (cs.drop ge.toNat).take (min (ge + x - gs).toNat cs.length - ge.toNat)
    let new := cs.take gs.toNat ++ M ++ cs.drop (gs + (M.length : Int)).toNat
    (M.length : Int) = x - gs ∧ new.length = cs.length ∧ new.take x.toNat ++ new.drop (ge + (M.length : Int)).toNat = cs.take gs.toNat ++ cs.drop ge.toNat := by
  obtain ⟨g, rfl⟩ := up0 h0
  obtain ⟨b, rfl⟩ := up1 h1
  obtain ⟨c, rfl⟩ := up1 h2
  have h4' : g + c + b ≤ cs.length := by omega
  have e : (((g + c : Nat) : Int) + ((g + b : Nat) : Int) - (g : Int)).toNat = g + c + b := isub (a := g + c + (g + b)) _ (by rw [Nat.add_left_comm, Nat.add_assoc])
  rw [e]
  exact move2N cs g b c h4'

theorem widen1 {cs : List Int} {gs ge k : Int} {z : List Int} (h1 : gs ≤ ge) (h2 : ge ≤ cs.length) (h0 : 0 ≤ gs) (hz : (z.length : Int) = k) :
    (cs.take ge.toNat ++ z ++ cs.drop ge.toNat).length = cs.length + z.length ∧
    (cs.take ge.toNat ++ z ++ cs.drop ge.toNat).take gs.toNat ++ (cs.take ge.toNat ++ z ++ cs.drop ge.toNat).drop (ge + k).toNat = cs.take gs.toNat ++ cs.drop ge.toNat := by
  obtain ⟨g, rfl⟩ := up0 h0
  obtain ⟨c, rfl⟩ := up1 h1
  subst hz
  have h2 : g + c ≤ cs.length := Int.ofNat_le.mp h2
  show (cs.take (g + c) ++ z ++ cs.drop (g + c)).length = _ ∧ (cs.take (g + c) ++ z ++ cs.drop (g + c)).take g ++ (cs.take (g + c) ++ z ++ cs.drop (g + c)).drop (g + c + z.length) = cs.take g ++ cs.drop (g + c)
  have lt : (cs.take (g + c)).length = g + c := List.length_take_of_le h2
  refine ⟨?_, ?_⟩
  · rw [List.length_append, List.length_append, lt, List.length_drop, Nat.add_right_comm, Nat.add_sub_cancel' h2]
  · rw [drop_app_ge (by rw [List.length_append, lt]), List.append_assoc, take_app_le (by rw [lt]; exact Nat.le_add_right ..), take_le]
theorem zeros_len (k : Int) (h : 0 ≤ k) : ((List.replicate k.toNat [(0 : Int)]).flatten.length : Int) = k := by
  obtain ⟨n, rfl⟩ := up0 h
  show ((List.replicate n [(0 : Int)]).flatten.length : Int) = n
  congr 1
  clear h
  induction n with
  | zero => rfl
  | succ n ih => rw [List.replicate_succ, List.flatten_cons, List.length_append, ih]; exact Nat.add_comm 1 n

theorem put1 {cs : List Int} {gs ge x y : Int} (h0 : 0 ≤ x) (h1 : x < gs) (h2 : gs ≤ cs.length) : (cs.set x.toNat y).take gs.toNat ++ (cs.set x.toNat y).drop ge.toNat = (cs.take gs.toNat ++ cs.drop ge.toNat).set x.toNat y ∨ ge < gs := by
  rcases Int.lt_or_le ge gs with hg | hg
  · exact .inr hg
  · left
    obtain ⟨x, rfl⟩ := up0 h0
    obtain ⟨g, rfl⟩ := up0 (Int.le_of_lt (Int.lt_of_le_of_lt h0 h1))
    obtain ⟨c, rfl⟩ := up1 hg
    have h1 : x < g := Int.ofNat_lt.mp h1
    have lt : x < (cs.take g).length := by rw [List.length_take_of_le (Int.ofNat_le.mp h2)]; exact h1
    show (cs.set x y).take g ++ (cs.set x y).drop (g + c) = (cs.take g ++ cs.drop (g + c)).set x y
    rw [List.set_append_left _ _ lt, List.take_set, List.drop_set_of_lt (Nat.lt_of_lt_of_le h1 (Nat.le_add_right ..))]
/-- the place behind the gap -/
theorem past (g c d : Nat) : (((g + d : Nat) : Int) - (g : Int) + ((g + c : Nat) : Int)).toNat = g + c + d := by
  rw [span, Int.add_comm]; rfl
theorem put2 {cs : List Int} {gs ge x y : Int} (h0 : 0 ≤ gs) (h1 : gs ≤ x) (h2 : gs ≤ ge) (h3 : ge ≤ cs.length) :
    (cs.set (x - gs + ge).toNat y).take gs.toNat ++ (cs.set (x - gs + ge).toNat y).drop ge.toNat = (cs.take gs.toNat ++ cs.drop ge.toNat).set x.toNat y := by
  obtain ⟨g, rfl⟩ := up0 h0
  obtain ⟨d, rfl⟩ := up1 h1
  obtain ⟨c, rfl⟩ := up1 h2
  rw [past]
  show (cs.set (g + c + d) y).take g ++ (cs.set (g + c + d) y).drop (g + c) = (cs.take g ++ cs.drop (g + c)).set (g + d) y
  have h3 : g + c ≤ cs.length := Int.ofNat_le.mp h3
  have lg : (cs.take g).length = g := List.length_take_of_le (Nat.le_trans (Nat.le_add_right ..) h3)
  rw [List.set_append_right _ _ (by rw [lg]; exact Nat.le_add_right ..), lg, Nat.add_sub_cancel_left, List.drop_set, if_neg (Nat.not_lt.mpr (Nat.le_add_right ..)), Nat.add_sub_cancel_left, List.take_set_of_le (by rw [Nat.add_assoc]; exact Nat.le_add_right ..)]

theorem code1 {cs : List Int} {gs ge x : Int} (h0 : 0 ≤ x) (h1 : x < gs) (h2 : gs ≤ cs.length) : cs.getD x.toNat 0 = (cs.take gs.toNat ++ cs.drop ge.toNat).getD x.toNat 0 := by
  obtain ⟨x, rfl⟩ := up0 h0
  obtain ⟨g, rfl⟩ := up0 (Int.le_of_lt (Int.lt_of_le_of_lt h0 h1))
  have h1 : x < g := Int.ofNat_lt.mp h1
  have lt : x < (cs.take g).length := by rw [List.length_take_of_le (Int.ofNat_le.mp h2)]; exact h1
  show cs.getD x 0 = (cs.take g ++ _).getD x 0
  rw [List.getD_eq_getElem?_getD, List.getD_eq_getElem?_getD, List.getElem?_append_left lt, List.getElem?_take_of_lt h1]
theorem code2 {cs : List Int} {gs ge x : Int} (h0 : 0 ≤ gs) (h1 : gs ≤ x) (h2 : gs ≤ ge) (h3 : ge ≤ cs.length) : cs.getD (x - gs + ge).toNat 0 = (cs.take gs.toNat ++ cs.drop ge.toNat).getD x.toNat 0 := by
  obtain ⟨g, rfl⟩ := up0 h0
  obtain ⟨d, rfl⟩ := up1 h1
  obtain ⟨c, rfl⟩ := up1 h2
  rw [past]
  show cs.getD (g + c + d) 0 = (cs.take g ++ cs.drop (g + c)).getD (g + d) 0
  have lg : (cs.take g).length = g := List.length_take_of_le (Nat.le_trans (Nat.le_add_right ..) (Int.ofNat_le.mp h3))
  rw [List.getD_eq_getElem?_getD, List.getD_eq_getElem?_getD, List.getElem?_append_right (by rw [lg]; exact Nat.le_add_right ..), lg, Nat.add_sub_cancel_left, List.getElem?_drop]

theorem del1 {cs : List Int} {gs ge x y : Int} (h0 : 0 ≤ x) (h1 : x ≤ gs) (h2 : gs ≤ y) (h3 : gs ≤ ge) (h4 : ge ≤ cs.length) :
    cs.take x.toNat ++ cs.drop (ge + y - gs).toNat = (cs.take gs.toNat ++ cs.drop ge.toNat).take x.toNat ++ (cs.take gs.toNat ++ cs.drop ge.toNat).drop y.toNat := by
  obtain ⟨x, rfl⟩ := up0 h0
  obtain ⟨b, rfl⟩ := up1 h1
  obtain ⟨d, rfl⟩ := up1 h2
  obtain ⟨c, rfl⟩ := up1 h3
  have e : (((x + b + c : Nat) : Int) + ((x + b + d : Nat) : Int) - ((x + b : Nat) : Int)).toNat = x + b + c + d := isub (a := x + b + c + (x + b + d)) _ (by rw [Nat.add_left_comm, Nat.add_assoc])
  rw [e]
  show cs.take x ++ cs.drop (x + b + c + d) = (cs.take (x + b) ++ cs.drop (x + b + c)).take x ++ (cs.take (x + b) ++ cs.drop (x + b + c)).drop (x + b + d)
  have lg : (cs.take (x + b)).length = x + b := List.length_take_of_le (Nat.le_trans (Nat.le_add_right ..) (Int.ofNat_le.mp h4))
  rw [take_app_le (by rw [lg]; exact Nat.le_add_right ..), take_le, drop_add_app lg, List.drop_drop]

theorem ins1 {cs ms : List Int} {gs ge : Int} (h0 : 0 ≤ gs) (h1 : gs + ms.length ≤ ge) (h2 : ge ≤ cs.length) :
    (cs.take gs.toNat ++ ms ++ cs.drop (gs + ms.length).toNat).length = cs.length ∧
    (cs.take gs.toNat ++ ms ++ cs.drop (gs + ms.length).toNat).take (gs + ms.length).toNat ++ (cs.take gs.toNat ++ ms ++ cs.drop (gs + ms.length).toNat).drop ge.toNat =
      (cs.take gs.toNat ++ cs.drop ge.toNat).take gs.toNat ++ ms ++ (cs.take gs.toNat ++ cs.drop ge.toNat).drop gs.toNat := by
  obtain ⟨g, rfl⟩ := up0 h0
  obtain ⟨c, rfl⟩ := up1 (n := g + ms.length) h1
  have h2 : g + ms.length + c ≤ cs.length := Int.ofNat_le.mp h2
  show (cs.take g ++ ms ++ cs.drop (g + ms.length)).length = cs.length ∧ (cs.take g ++ ms ++ cs.drop (g + ms.length)).take (g + ms.length) ++ (cs.take g ++ ms ++ cs.drop (g + ms.length)).drop (g + ms.length + c) =
      (cs.take g ++ cs.drop (g + ms.length + c)).take g ++ ms ++ (cs.take g ++ cs.drop (g + ms.length + c)).drop g
  have h3 : g + ms.length ≤ cs.length := Nat.le_trans (Nat.le_add_right ..) h2
  have lg : (cs.take g).length = g := List.length_take_of_le (Nat.le_trans (Nat.le_add_right ..) h3)
  have l2 : (cs.take g ++ ms).length = g + ms.length := by rw [List.length_append, lg]
  refine ⟨?_, ?_⟩
  · rw [List.length_append, l2, List.length_drop, Nat.add_sub_cancel' h3]
  · rw [take_app_ge l2.symm, drop_add_app l2, List.drop_drop, take_app_ge lg.symm, drop_app_ge lg.symm]

end Mine

section Lay4
open PySem PySem.Spec PySem.Calls PySem.W PyProof.Rows

theorem Mine.lay4 : True := by
  w_top off
  k_with "~L4:ktr_room" => k_extra "~w0"
  k_with "~L4:k_ne" => k_extra "~w1"
  k_with "~L4:ktr_room" => k_extra "~w2"
  k_with "~L4:ktr_units" => k_extra "~w2"
  k_with "~L4:ktr_room" => k_extra "~w3"
  k_with "~L4:ktr_units" => k_extra "~w4"
  k_with "~L4:is_list" => k_extra "~w5"
  k_with "~L4:k_enter" => k_extra "~w18"
  k_with "~L4:k_subL" => k_extra "~w7"
  k_with "~L4:setItem ref ref" => k_extra "~w8"
  k_with "~L4:k_clsL" => k_extra "~w9"
  k_with "~L4:k_offL" => k_extra "~w10"
  k_with "~L4:call ref" => k_extra "~w11"
  k_with "~L4:call ref" => k_extra "~w12"
  k_with "~L4:call ref" => k_extra "~w13"
  k_with "~L4:call ref" => k_extra "~w14"
  k_with "~L4:call builtin:sorted" => k_extra "~w15"
  k_with "~L4:call ref" => k_extra "~w19"
  trivial

namespace Mine
def txt (S : GapS) (cs : List Int) : List Int := cs.take S.gs.toNat ++ cs.drop S.ge.toNat
theorem txt_len' {cs : List Int} {gs ge : Int} (h0 : 0 ≤ gs) (h1 : gs ≤ ge) (h2 : ge ≤ cs.length) : ((cs.take gs.toNat ++ cs.drop ge.toNat).length : Int) = cs.length - ge + gs := by
  obtain ⟨g, rfl⟩ := up0 h0
  obtain ⟨c, rfl⟩ := up1 h1
  have h2 : g + c ≤ cs.length := Int.ofNat_le.mp h2
  show ((cs.take g ++ cs.drop (g + c)).length : Int) = _
  rw [List.length_append, List.length_drop, List.length_take_of_le (Nat.le_trans (Nat.le_add_right ..) h2), Int.natCast_add, Int.ofNat_sub h2, Int.add_comm]
theorem txt_len {S : GapS} {cs : List Int} (G : GapOk S cs) : ((txt S cs).length : Int) = cs.length - S.ge + S.gs := txt_len' G.h0 G.h1 G.h2

/-- the cut of the cells, by the gap's three cases -/
theorem seg_len {l : List Int} {a b : Nat} : ((l.drop a).take (b - a)).length = min (b - a) (l.length - a) := by rw [List.length_take, List.length_drop]
theorem seg_eq (l : List Int) (a b : Nat) : (l.drop a).take (b - a) = (l.take b).drop a := (List.drop_take ..).symm
theorem codesN {cs : List Int} {g c x y : Nat} (h4 : g + c ≤ cs.length) :
    let T := cs.take g ++ cs.drop (g + c)
    (y ≤ g → (cs.drop x).take (y - x) = (T.drop x).take (y - x)) ∧ (g ≤ x → (cs.drop (x + c)).take (y - x) = (T.drop x).take (y - x)) ∧
    (x ≤ g → g ≤ y → (cs.drop x).take (g - x) ++ (cs.drop (g + c)).take (y - g) = (T.drop x).take (y - x)) := by
  intro T
  have lg : (cs.take g).length = g := List.length_take_of_le (Nat.le_trans (Nat.le_add_right ..) h4)
  refine ⟨fun h => ?_, fun h => ?_, fun h h' => ?_⟩
  · rw [seg_eq, seg_eq]
    show _ = List.drop x (List.take y (cs.take g ++ cs.drop (g + c)))
    rw [take_app_le (by rw [lg]; exact h), List.take_take, Nat.min_eq_left h]
  · obtain ⟨k, rfl⟩ := Nat.exists_eq_add_of_le h
    show _ = List.take _ (List.drop (g + k) (cs.take g ++ cs.drop (g + c)))
    rw [drop_add_app lg, List.drop_drop, Nat.add_right_comm]
  · rw [seg_eq T x y]
    show _ = List.drop x (List.take y (cs.take g ++ cs.drop (g + c)))
    have e0 : List.take y (cs.take g) = cs.take g := List.take_of_length_le (by rw [lg]; exact h')
    rw [List.take_append, lg, e0, List.drop_append, lg, Nat.sub_eq_zero_of_le h, List.drop_zero, seg_eq]
theorem past2 (x g c : Nat) : ((x : Int) + (((g + c : Nat) : Int) - (g : Int))).toNat = x + c := by
  rw [span]; rfl
theorem codesI {cs : List Int} {gs ge x y : Int} (h0 : 0 ≤ x) (h1 : x ≤ y) (g0 : 0 ≤ gs) (g1 : gs ≤ ge) (g2 : ge ≤ cs.length) (h2 : y ≤ cs.length - ge + gs) :
    let R := ((cs.take gs.toNat ++ cs.drop ge.toNat).drop x.toNat).take (y - x).toNat
    (y ≤ gs → (cs.drop x.toNat).take (min y.toNat cs.length - x.toNat) = R) ∧
    (gs ≤ x → (cs.drop (x + (ge - gs)).toNat).take (min (y + (ge - gs)).toNat cs.length - (x + (ge - gs)).toNat) = R) ∧
    (x ≤ gs → gs ≤ y → (cs.drop x.toNat).take (min gs.toNat cs.length - x.toNat) ++ (cs.drop ge.toNat).take (min (y + (ge - gs)).toNat cs.length - ge.toNat) = R) := by
  obtain ⟨x, rfl⟩ := up0 h0
  obtain ⟨y, rfl⟩ := up0 (Int.le_trans h0 h1)
  obtain ⟨g, rfl⟩ := up0 g0
  obtain ⟨c, rfl⟩ := up1 g1
  have g2 : g + c ≤ cs.length := Int.ofNat_le.mp g2
  have g3 : g ≤ cs.length := Nat.le_trans (Nat.le_add_right ..) g2
  have h2 : y + c ≤ cs.length := by omega
  obtain ⟨k1, k2, k3⟩ := codesN (x := x) (y := y) g2
  rw [past2, past2, Int.toNat_sub, Nat.min_eq_left h2, Nat.add_sub_add_right]
  refine ⟨fun h => ?_, k2 ∘ Int.ofNat_le.mp, fun h h' => ?_⟩
  · show List.take (min y cs.length - x) (List.drop x cs) = _
    rw [Nat.min_eq_left (Nat.le_trans (Int.ofNat_le.mp h) g3)]; exact k1 (Int.ofNat_le.mp h)
  · show List.take (min g cs.length - x) (List.drop x cs) ++ List.take (y + c - (g + c)) (List.drop (g + c) cs) = _
    rw [Nat.min_eq_left g3, Nat.add_sub_add_right]; exact k3 (Int.ofNat_le.mp h) (Int.ofNat_le.mp h')

theorem gap_codes (w : World) (A : GapA) (S : GapS) (cs : List Int) (G : GapOk S cs) (x y : Int) (tx ty : Tok) (h0 : 0 ≤ x) (h1 : x ≤ y) (h2 : y ≤ (txt S cs).length) :
    Cal w 203 [.ref A.gt, .int x tx, .int y ty] 1 8 (gapL w.params A S) (X := Addr × List Value × Nat) (fun r => .ref r.1) (fun r => (r.1, listOf r.2.1.toArray r.2.2) :: gapL w.params A S) (fun rest r => IntsAre r.2.1 (((txt S cs).drop x.toNat).take (y - x).toNat) ∧ ∀ p ∈ gapL w.params A S ++ rest, p.1 < r.1) := by
  have hfill : hd.heap_1 = hd.heap_1 ∧ PySem.Challenge.rw_pq0288_01 = PySem.Challenge.rw_pq0288_01 := by k_fill; exact ⟨rfl, rfl⟩
  clear hfill
  rw [txt_len G] at h2
  obtain ⟨hI, g0, g1, g2, g3, g4, g5⟩ := G
  intro mean mg mb dp un gdd cn csc a ccd cll outer A₀ base h₀ L m s rest Q E B F KX N off T hk hdp hun hret
  refine wpAny_call ?_
  k_dflt cell_enter
  k_steps
  all_goals (try dsimp only)
  all_goals (obtain ⟨c1, c2, c3⟩ := codesI (cs := cs) h0 h1 g0 g1 g2 h2)
  · rename Fr _ _ _ _ => fE
    rename News _ _ _ _ => nE
    rename IntsAre _ _ => iE
    refine hret (_, _, _) _ _ ⟨ints_cast iE (c1 ?_), by assumption⟩ fE nE
    omega
  · rename Fr _ _ _ _ => fE
    rename News _ _ _ _ => nE
    rename IntsAre _ _ => iE
    refine hret (_, _, _) _ _ ⟨ints_cast iE (c2 ?_), by assumption⟩ fE nE
    omega
  · rename Fr _ _ _ _ => fE
    rename News _ _ _ _ => nE
    rename IntsAre _ _ => iE
    refine hret (_, _, _) _ _ ⟨ints_cast iE (c3 ?_ ?_), fun p hp => ?_⟩ fE (News.sub nE (Sub.same (Sub.skip (Sub.skip (Sub.refl _)))))
    · omega
    · omega
    · rename _ < _ ∧ _ < _ ∧ AllLt _ _ => lE
      exact allLt_at lE.2.2 p hp

end Mine

namespace Mine
theorem m1_le {cs : List Int} {g x : Int} (h : 0 ≤ g) : ((List.take (min g.toNat cs.length - x.toNat) (List.drop x.toNat cs)).length : Int) ≤ g := by
  obtain ⟨g, rfl⟩ := up0 h
  exact Int.ofNat_le.mpr (Nat.le_trans (List.length_take_le _ _) (Nat.le_trans (Nat.sub_le ..) (Nat.min_le_left ..)))
theorem m2_le {cs : List Int} {e : Int} {k : Nat} (h : 0 ≤ e) (h' : e ≤ cs.length) : e + ((List.take k (List.drop e.toNat cs)).length : Int) ≤ cs.length := by
  obtain ⟨e, rfl⟩ := up0 h
  have h' : e ≤ cs.length := Int.ofNat_le.mp h'
  show ((e + (List.take k (List.drop e cs)).length : Nat) : Int) ≤ cs.length
  refine Int.ofNat_le.mpr (Nat.le_trans (Nat.add_le_add_left (List.length_take_le' _ _) _) ?_)
  rw [List.length_drop, Nat.add_sub_cancel' h']
  exact Nat.le_refl _
theorem gap_move (w : World) (A : GapA) (hA : A.ok) (S : GapS) (cs : List Int) (G : GapOk S cs) (x : Int) (tx : Tok) (h0 : 0 ≤ x) (h2 : x ≤ (cs.length : Int) - S.ge + S.gs) :
    Cal w 210 [.ref A.gt, .int x tx] 1 8 (gapL w.params A S) (X := GapS) (fun r => .none) (fun r => gapL w.params A r) (fun _ r => r.room = S.room ∧ r.gs = x ∧ r.ge - r.gs = S.ge - S.gs ∧ ∃ cs', GapOk r cs' ∧ cs'.length = cs.length ∧ txt r cs' = txt S cs) := by
  have hfill : hd.heap_1 = hd.heap_1 ∧ PySem.Challenge.rw_pq0288_01 = PySem.Challenge.rw_pq0288_01 := by k_fill; exact ⟨rfl, rfl⟩
  clear hfill
  obtain ⟨hI, g0, g1, g2, g3, g4, g5⟩ := G
  obtain ⟨a1, a2⟩ := hA
  have hm1 : ((List.take (min S.gs.toNat cs.length - x.toNat) (List.drop x.toNat cs)).length : Int) ≤ S.gs := m1_le g0
  have hm2 : S.ge + ((List.take (min (S.ge + x - S.gs).toNat cs.length - S.ge.toNat) (List.drop S.ge.toNat cs)).length : Int) ≤ cs.length := m2_le (Int.le_trans g0 g1) g2
  intro mean mg mb dp un gdd cn csc a ccd cll outer A₀ base h₀ L m s rest Q E B F KX N off T hk hdp hun hret
  refine wpAny_call ?_
  k_dflt k_enter
  k_steps
  · obtain ⟨e1, e2, e3⟩ := move1 (cs := cs) h0 (x := x) (by omega) g1 g2
    rename Fr _ _ _ _ => fE
    rename News _ _ _ _ => nE
    refine Cal.done rest hret ⟨_, _, _, _, _, _, _, _, _, _, _, _⟩ fE nE (sub_gap (Sub.skip (Sub.refl _))) ?_
    refine ⟨rfl, rfl, ?_, _, ⟨by assumption, ?_, ?_, ?_, g3, g4, ?_⟩, e2, e3⟩
    · show S.ge - _ - x = _; omega
    · exact h0
    · show x ≤ S.ge - _; omega
    · rw [e2]; show S.ge - _ ≤ _; omega
    · rw [e2]; exact g5
  · obtain ⟨e1, e2, e3⟩ := move2 (cs := cs) g0 (x := x) (by omega) g1 g2 h2
    rename Fr _ _ _ _ => fE
    rename News _ _ _ _ => nE
    refine Cal.done rest hret ⟨_, _, _, _, _, _, _, _, _, _, _, _⟩ fE nE (sub_gap (Sub.skip (Sub.refl _))) ?_
    refine ⟨rfl, rfl, ?_, _, ⟨by assumption, ?_, ?_, ?_, g3, g4, ?_⟩, e2, e3⟩
    · show S.ge + _ - x = _; omega
    · exact h0
    · show x ≤ S.ge + _; omega
    · rw [e2]; show S.ge + _ ≤ _; omega
    · rw [e2]; exact g5

end Mine

namespace Mine

theorem gap_widen (w : World) (A : GapA) (hA : A.ok) (S : GapS) (cs : List Int) (G : GapOk S cs) (x : Int) (tx : Tok) (h0 : 0 ≤ x) (h2 : x ≤ 40) (h3 : cs.length ≤ 900) :
    Cal w 217 [.ref A.gt, .int x tx] 1 8 (gapL w.params A S) (X := GapS) (fun r => .none) (fun r => gapL w.params A r) (fun _ r => r.room = S.room ∧ r.gs = S.gs ∧ x ≤ r.ge - r.gs ∧ ∃ cs', GapOk r cs' ∧ txt r cs' = txt S cs ∧ cs'.length ≤ cs.length + 42) := by
  have hfill : hd.heap_1 = hd.heap_1 ∧ PySem.Challenge.rw_pq0288_01 = PySem.Challenge.rw_pq0288_01 := by k_fill; exact ⟨rfl, rfl⟩
  clear hfill
  have G' := G
  obtain ⟨hI, g0, g1, g2, g3, g4, g5⟩ := G'
  have hA' := hA
  obtain ⟨a1, a2⟩ := hA'
  intro mean mg mb dp un gdd cn csc a ccd cll outer A₀ base h₀ L m s rest Q E B F KX N off T hk hdp hun hret
  refine wpAny_call ?_
  k_dflt k_enter
  k_steps
  all_goals (try dsimp only)
  · rename 0 < x - (S.ge - S.gs) => hlt
    rename Fr _ _ _ _ => fE
    rename News _ _ _ _ => nE
    rename IntsAre _ (_ ++ _ ++ _) => iE
    obtain ⟨e1, e2⟩ := widen1 (cs := cs) (k := x - (S.ge - S.gs) + S.room) g1 g2 g0 (zeros_len _ (by omega))
    have ez := zeros_len (x - (S.ge - S.gs) + S.room) (by omega)
    have hz42 : (List.replicate (x - (S.ge - S.gs) + S.room).toNat [(0 : Int)]).flatten.length ≤ 42 := by clear e1 e2 iE fE nE; omega
    have eg : S.ge + (x - (S.ge - S.gs)) + S.room = S.ge + (x - (S.ge - S.gs) + S.room) := by omega
    refine Cal.done rest hret ⟨_, _, _, _, _, _, _, _, _, _, _, _⟩ fE nE (sub_gap (Sub.skip (Sub.skip (Sub.refl _)))) ⟨rfl, rfl, ?_, _, ⟨iE, g0, ?_, ?_, g3, g4, ?_⟩, ?_, ?_⟩
    · show x ≤ S.ge + (x - (S.ge - S.gs)) + S.room - S.gs; omega
    · show S.gs ≤ S.ge + (x - (S.ge - S.gs)) + S.room; omega
    · rw [e1]; show S.ge + (x - (S.ge - S.gs)) + S.room ≤ _; omega
    · rw [e1]; exact Nat.le_trans (Nat.add_le_add_right (by assumption : cs.length ≤ 900) _) (Nat.le_trans (Nat.add_le_add_left hz42 _) (by decide))
    · show List.take S.gs.toNat _ ++ List.drop (S.ge + (x - (S.ge - S.gs)) + S.room).toNat _ = _
      rw [eg]; exact e2
    · rw [e1]; exact Nat.add_le_add_left hz42 _
  · rename ¬ 0 < x - (S.ge - S.gs) => hlt
    rename Fr _ _ _ _ => fE
    rename News _ _ _ _ => nE
    exact Cal.done rest hret S fE nE (Sub.refl _) ⟨rfl, rfl, by omega, cs, G, rfl, by omega⟩

end Mine

namespace Mine

theorem gap_put (w : World) (A : GapA) (hA : A.ok) (S : GapS) (cs : List Int) (G : GapOk S cs) (x y : Int) (tx ty : Tok) (h0 : 0 ≤ x) (h2 : x < (txt S cs).length) :
    Cal w 238 [.ref A.gt, .int x tx, .int y ty] 1 8 (gapL w.params A S) (X := GapS) (fun r => .none) (fun r => gapL w.params A r) (fun _ r => r.room = S.room ∧ ∃ cs', GapOk r cs' ∧ cs'.length = cs.length ∧ txt r cs' = (txt S cs).set x.toNat y) := by
  have hfill : hd.heap_1 = hd.heap_1 ∧ PySem.Challenge.rw_pq0288_01 = PySem.Challenge.rw_pq0288_01 := by k_fill; exact ⟨rfl, rfl⟩
  clear hfill
  rw [txt_len G] at h2
  have G' := G
  obtain ⟨hI, g0, g1, g2, g3, g4, g5⟩ := G'
  have hA' := hA
  obtain ⟨a1, a2⟩ := hA'
  intro mean mg mb dp un gdd cn csc a ccd cll outer A₀ base h₀ L m s rest Q E B F KX N off T hk hdp hun hret
  refine wpAny_call ?_
  k_dflt k_enter
  k_steps
  all_goals (try dsimp only)
  · rename x < S.gs => hlt
    rename Fr _ _ _ _ => fE
    rename News _ _ _ _ => nE
    rename IntsAre _ (List.set _ _ _) => iE
    have e := (put1 (ge := S.ge) (y := y) h0 hlt (by omega : S.gs ≤ cs.length)).resolve_right (by omega)
    exact Cal.done rest hret ⟨S.k1, S.k2, S.k3, S.k4, S.room, S.t1, S.gs, S.t2, S.ge, S.t3, S.vs.set x.toNat (Value.int y ty), S.n⟩ fE nE (Sub.refl _) ⟨rfl, _, ⟨iE, g0, g1, by rw [List.length_set]; exact g2, g3, g4, by rw [List.length_set]; exact g5⟩, List.length_set .., e⟩
  · rename ¬ x < S.gs => hlt
    rename Fr _ _ _ _ => fE
    rename News _ _ _ _ => nE
    rename IntsAre _ (List.set _ _ _) => iE
    have e := put2 (y := y) g0 (by omega : S.gs ≤ x) g1 g2
    exact Cal.done rest hret ⟨S.k1, S.k2, S.k3, S.k4, S.room, S.t1, S.gs, S.t2, S.ge, S.t3, S.vs.set (x - S.gs + S.ge).toNat (Value.int y ty), S.n⟩ fE nE (Sub.refl _) ⟨rfl, _, ⟨iE, g0, g1, by rw [List.length_set]; exact g2, g3, g4, by rw [List.length_set]; exact g5⟩, List.length_set .., e⟩

end Mine

namespace Mine

theorem gap_code (w : World) (A : GapA) (hA : A.ok) (S : GapS) (cs : List Int) (G : GapOk S cs) (x : Int) (tx : Tok) (h0 : 0 ≤ x) (h2 : x < (txt S cs).length) :
    Cal w 196 [.ref A.gt, .int x tx] 1 8 (gapL w.params A S) (X := Tok) (fun t => .int ((txt S cs).getD x.toNat 0) t) (fun _ => gapL w.params A S) (fun _ _ => True) := by
  have hfill : hd.heap_1 = hd.heap_1 ∧ PySem.Challenge.rw_pq0288_01 = PySem.Challenge.rw_pq0288_01 := by k_fill; exact ⟨rfl, rfl⟩
  clear hfill
  rw [txt_len G] at h2
  have G' := G
  obtain ⟨hI, g0, g1, g2, g3, g4, g5⟩ := G'
  have hA' := hA
  obtain ⟨a1, a2⟩ := hA'
  intro mean mg mb dp un gdd cn csc a ccd cll outer A₀ base h₀ L m s rest Q E B F KX N off T hk hdp hun hret
  refine wpAny_call ?_
  k_dflt k_enter
  k_steps
  all_goals (try dsimp only)
  · rename x < S.gs => hlt
    rename Fr _ _ _ _ => fE
    rename News _ _ _ _ => nE
    rw [code1 (ge := S.ge) h0 hlt (by omega : S.gs ≤ cs.length)]
    exact Cal.done rest hret _ fE nE (Sub.refl _) trivial
  · rename ¬ x < S.gs => hlt
    rename Fr _ _ _ _ => fE
    rename News _ _ _ _ => nE
    rw [code2 g0 (by omega : S.gs ≤ x) g1 g2]
    exact Cal.done rest hret _ fE nE (Sub.refl _) trivial

end Mine

namespace Mine

theorem gap_delete (w : World) (A : GapA) (hA : A.ok) (S : GapS) (cs : List Int) (G : GapOk S cs) (x y : Int) (tx ty : Tok) (h0 : 0 ≤ x) (h1 : x ≤ y) (h2 : y ≤ (txt S cs).length) :
    Cal w 231 [.ref A.gt, .int x tx, .int y ty] 4 40 (gapL w.params A S) (X := GapS × Addr) (fun r => .ref r.2) (fun r => gapL w.params A r.1) (fun _ r => r.1.room = S.room ∧ ∃ cs', GapOk r.1 cs' ∧ cs'.length = cs.length ∧ txt r.1 cs' = (txt S cs).take x.toNat ++ (txt S cs).drop y.toNat) := by
  have hfill : hd.heap_1 = hd.heap_1 ∧ PySem.Challenge.rw_pq0288_01 = PySem.Challenge.rw_pq0288_01 := by k_fill; exact ⟨rfl, rfl⟩
  clear hfill
  have h2' := h2
  rw [txt_len G] at h2'
  have G' := G
  obtain ⟨hI, g0, g1, g2, g3, g4, g5⟩ := G'
  have hA' := hA
  obtain ⟨a1, a2⟩ := hA'
  intro mean mg mb dp un gdd cn csc a ccd cll outer A₀ base h₀ L m s rest Q E B F KX N off T hk hdp hun hret
  refine wpAny_call ?_
  k_dflt k_enter
  k_steps
  all_goals (try dsimp only)
  · rename GapOk _ _ => G1
    rename txt _ _ = txt S cs => ht
    rename GapS.gs _ = y => hg
    rename Fr _ _ _ _ => fE
    rename News _ _ _ _ => nE
    obtain ⟨iE, q0, q1, q2, q3, q4, q5⟩ := id G1
    rename GapS => r
    refine Cal.done rest hret (⟨_, _, _, _, _, _, _, _, _, _, _, _⟩, _) fE nE (sub_gap (Sub.same (Sub.same (Sub.same (Sub.none _))))) ⟨?_, _, ⟨iE, ?_, ?_, ?_, q3, q4, q5⟩, ?_, ?_⟩
    · assumption
    · exact h0
    · dsimp only; omega
    · dsimp only; omega
    · assumption
    · rw [← ht]; exact del1 (gs := r.gs) (ge := r.ge) (x := x) (y := y) h0 (by omega) (by omega) q1 q2
  · rename GapOk _ _ => G1
    rename txt _ _ = txt S cs => ht
    rename GapS.gs _ = x => hg
    rename Fr _ _ _ _ => fE
    rename News _ _ _ _ => nE
    obtain ⟨iE, q0, q1, q2, q3, q4, q5⟩ := id G1
    rename GapS => r
    have hl := txt_len G1
    rw [ht, txt_len G] at hl
    refine Cal.done rest hret (⟨_, _, _, _, _, _, _, _, _, _, _, _⟩, _) fE nE (sub_gap (Sub.same (Sub.same (Sub.same (Sub.none _))))) ⟨?_, _, ⟨iE, ?_, ?_, ?_, q3, q4, q5⟩, ?_, ?_⟩
    · assumption
    · exact h0
    · dsimp only; omega
    · dsimp only; omega
    · assumption
    · rw [← ht]; exact del1 (gs := r.gs) (ge := r.ge) (x := x) (y := y) h0 (by omega) (by omega) q1 q2
  · rename Fr _ _ _ _ => fE
    rename News _ _ _ _ => nE
    refine Cal.done rest hret (⟨_, _, _, _, _, _, _, _, _, _, _, _⟩, _) fE nE (sub_gap (Sub.skip (Sub.refl _))) ⟨rfl, _, ⟨hI, ?_, ?_, ?_, g3, g4, g5⟩, rfl, ?_⟩
    · exact h0
    · dsimp only; omega
    · dsimp only; omega
    · exact del1 (gs := S.gs) (ge := S.ge) (x := x) (y := y) h0 (by omega) (by omega) g1 g2

end Mine

namespace Mine

theorem gap_insert (w : World) (A : GapA) (hA : A.ok) (S : GapS) (cs : List Int) (G : GapOk S cs) (x : Int) (tx : Tok) (c : Addr) (vs : List Value) (ms : List Int) (n : Nat) (hv : IntsAre vs ms) (h0 : 0 ≤ x) (h2 : x ≤ (txt S cs).length) (h3 : cs.length ≤ 900) (h4 : ms.length ≤ 40) (hc1 : @Ne Nat c A.gt) (hc2 : @Ne Nat c A.gd) (hc3 : @Ne Nat c A.cl) :
    Cal w 224 [.ref A.gt, .int x tx, .ref c] 4 40 (gapL w.params A S ++ [(c, listOf vs.toArray n)]) (X := GapS) (fun r => .none) (fun r => gapL w.params A r ++ [(c, listOf vs.toArray n)]) (fun _ r => r.room = S.room ∧ ∃ cs', GapOk r cs' ∧ cs'.length ≤ cs.length + 42 ∧ txt r cs' = (txt S cs).take x.toNat ++ ms ++ (txt S cs).drop x.toNat) := by
  have hfill : hd.heap_1 = hd.heap_1 ∧ PySem.Challenge.rw_pq0288_01 = PySem.Challenge.rw_pq0288_01 := by k_fill; exact ⟨rfl, rfl⟩
  clear hfill
  have h2' := h2
  rw [txt_len G] at h2'
  have G' := G
  obtain ⟨hI, g0, g1, g2, g3, g4, g5⟩ := G'
  have hA' := hA
  obtain ⟨a1, a2⟩ := hA'
  intro mean mg mb dp un gdd cn csc a ccd cll outer A₀ base h₀ L m s rest Q E B F KX N off T hk hdp hun hret
  refine wpAny_call ?_
  k_dflt k_enter
  k_steps
  all_goals (try dsimp only)
  rename Fr _ _ _ _ => fE
  rename News _ _ _ _ => nE
  rename IntsAre _ (_ ++ ms ++ _) => iE
  rename GapS.gs _ = x => hg
  rename GapOk _ _ => G1
  rename (txt _ _ = txt S cs) => ht1
  rename (txt _ _ = txt _ _) => ht2
  obtain ⟨iE1, q0, q1, q2, q3, q4, q5⟩ := id G1
  rw [← hg] at iE
  obtain ⟨e1, e2⟩ := ins1 (ms := ms) q0 (by omega) q2
  refine Cal.done rest hret ⟨_, _, _, _, _, _, _, _, _, _, _, _⟩ fE nE (sub_gap4 (Sub.refl _)) ⟨?_, _, ⟨iE, ?_, ?_, ?_, q3, q4, ?_⟩, ?_, ?_⟩
  · dsimp only; omega
  · dsimp only; omega
  · dsimp only; omega
  · rw [e1]; exact q2
  · rw [e1]; exact q5
  · rw [e1]; omega
  · rw [← ht1, ← ht2]
    show List.take (x + (ms.length : Int)).toNat _ ++ _ = _
    rw [← hg]
    exact e2

end Mine

end Lay4

section Lay5
open PySem PySem.Spec PySem.Calls PySem.W PyProof.Rows

theorem Mine.lay5 : True := by
  w_top off
  k_with "~L5:ktr_room" => k_extra "~w0"
  k_with "~L5:k_ne" => k_extra "~w1"
  k_with "~L5:ktr_room" => k_extra "~w2"
  k_with "~L5:ktr_units" => k_extra "~w2"
  k_with "~L5:ktr_room" => k_extra "~w3"
  k_with "~L5:ktr_units" => k_extra "~w4"
  k_with "~L5:is_list" => k_extra "~w5"
  k_with "~L5:k_enter" => k_extra "~w6"
  k_with "~L5:k_subL" => k_extra "~w7"
  k_with "~L5:setItem ref ref" => k_extra "~w8"
  k_with "~L5:k_clsL" => k_extra "~w9"
  k_with "~L5:k_offL" => k_extra "~w10"
  k_with "~L5:call ref" => k_extra "~w11"
  k_with "~L5:call ref" => k_extra "~w12"
  k_with "~L5:call ref" => k_extra "~w13"
  k_with "~L5:call ref" => k_extra "~w14"
  k_with "~L5:call builtin:sorted" => k_extra "~w15"
  k_with "~L5:call ref" => k_extra "~w16"
  trivial

namespace Mine

/-- the tokens of a buffer's dict that never change -/
structure BufK where
  k0 : Tok
  k1 : Tok
  k2 : Tok
  k3 : Tok
  k4 : Tok
  k5 : Tok
  k6 : Tok
  k7 : Tok
  k8 : Tok
  k9 : Tok
  k10 : Tok
  k11 : Tok
  k12 : Tok
  k13 : Tok
  k14 : Tok
  k15 : Tok
  k16 : Tok
  k17 : Tok
  k18 : Tok
  k19 : Tok
  number : Value
  name : Value
  saved : Value
  n : Nat
structure BufA where
  bx : Addr
  dx : Addr
  ls : Addr
  G : GapA
  M : MkA
structure BufS where
  K : BufK
  point : Int
  tp : Tok
  begv : Int
  tb : Tok
  zv : Int
  tz : Tok
  ticks : Int
  tt : Tok
  codes : Int
  tc : Tok
def bufD (P : Params) (A : BufA) (B : BufS) : List DictEntry :=
  [⟨PyData.keyHash P (Str.ofString "number"), .str (Str.ofString "number") B.K.k0, B.K.number⟩,
   ⟨PyData.keyHash P (Str.ofString "name"), .str (Str.ofString "name") B.K.k1, B.K.name⟩,
   ⟨PyData.keyHash P (Str.ofString "text"), .str (Str.ofString "text") B.K.k2, .ref A.G.gt⟩,
   ⟨PyData.keyHash P (Str.ofString "markers"), .str (Str.ofString "markers") B.K.k3, .ref A.M.kk⟩,
   ⟨PyData.keyHash P (Str.ofString "point"), .str (Str.ofString "point") B.K.k4, .int B.point B.tp⟩,
   ⟨PyData.keyHash P (Str.ofString "begv"), .str (Str.ofString "begv") B.K.k5, .int B.begv B.tb⟩,
   ⟨PyData.keyHash P (Str.ofString "zv"), .str (Str.ofString "zv") B.K.k6, .int B.zv B.tz⟩,
   ⟨PyData.keyHash P (Str.ofString "mark"), .str (Str.ofString "mark") B.K.k7, .none⟩,
   ⟨PyData.keyHash P (Str.ofString "is_live"), .str (Str.ofString "is_live") B.K.k8, .bool true⟩,
   ⟨PyData.keyHash P (Str.ofString "is_read_only"), .str (Str.ofString "is_read_only") B.K.k9, .bool false⟩,
   ⟨PyData.keyHash P (Str.ofString "ticks"), .str (Str.ofString "ticks") B.K.k10, .int B.ticks B.tt⟩,
   ⟨PyData.keyHash P (Str.ofString "codes_ticks"), .str (Str.ofString "codes_ticks") B.K.k11, .int B.codes B.tc⟩,
   ⟨PyData.keyHash P (Str.ofString "saved_ticks"), .str (Str.ofString "saved_ticks") B.K.k12, B.K.saved⟩,
   ⟨PyData.keyHash P (Str.ofString "listeners"), .str (Str.ofString "listeners") B.K.k13, .ref A.ls⟩,
   ⟨PyData.keyHash P (Str.ofString "undo"), .str (Str.ofString "undo") B.K.k14, .none⟩,
   ⟨PyData.keyHash P (Str.ofString "props"), .str (Str.ofString "props") B.K.k15, .none⟩,
   ⟨PyData.keyHash P (Str.ofString "overlays"), .str (Str.ofString "overlays") B.K.k16, .none⟩,
   ⟨PyData.keyHash P (Str.ofString "locals"), .str (Str.ofString "locals") B.K.k17, .none⟩,
   ⟨PyData.keyHash P (Str.ofString "syntax"), .str (Str.ofString "syntax") B.K.k18, .none⟩,
   ⟨PyData.keyHash P (Str.ofString "file"), .str (Str.ofString "file") B.K.k19, .none⟩]
def bufL (P : Params) (A : BufA) (B : BufS) : List (Addr × Obj) := [(A.bx, instObj 506 A.dx), (A.dx, dictOf (bufD P A B) 20), (A.ls, listOf #[] B.K.n)]
def BufA.addrs (A : BufA) : List Nat := [A.dx, A.bx, A.G.gd, A.G.gt, A.G.cl, A.M.kd, A.M.kk, A.M.rows, A.ls, A.M.d0, A.M.m0, A.M.d1, A.M.m1, A.M.d2, A.M.m2, A.M.d3, A.M.m3]
def BufA.ok (A : BufA) : Prop := A.addrs.Pairwise (· < ·)
/-- what two parts of the group have in common: nothing -/
theorem off_idx {l : List Nat} (h : l.Pairwise (· < ·)) (I J : List Nat) (d : (I.all fun i => Nat.blt i l.length && J.all fun j => Nat.blt j l.length && !(Nat.beq i j)) = true) {a b : List (Addr × Obj)}
    (ha : a.map (fun p => (p.1 : Nat)) = I.map (fun i => l.getD i 0)) (hb : b.map (fun p => (p.1 : Nat)) = J.map (fun i => l.getD i 0)) : Off a b := by
  intro p hp q hq e
  have h1 : (p.1 : Nat) ∈ I.map (fun i => l.getD i 0) := ha ▸ List.mem_map_of_mem hp
  have h2 : (q.1 : Nat) ∈ J.map (fun i => l.getD i 0) := hb ▸ List.mem_map_of_mem hq
  obtain ⟨i, hi, ei⟩ := List.mem_map.mp h1
  obtain ⟨j, hj, ej⟩ := List.mem_map.mp h2
  have d1 := List.all_eq_true.mp d i hi
  rw [Bool.and_eq_true] at d1
  have d2 := List.all_eq_true.mp d1.2 j hj
  rw [Bool.and_eq_true] at d2
  have hil : i < l.length := by simpa [Nat.blt_eq] using d1.1
  have hjl : j < l.length := by simpa [Nat.blt_eq] using d2.1
  have hne : i ≠ j := fun e => by subst e; simp at d2
  simp only [List.getD_eq_getElem?_getD, List.getElem?_eq_getElem hil, List.getElem?_eq_getElem hjl, Option.getD_some] at ei ej
  have e' : l[i] = l[j] := by rw [ei, ej]; exact e
  have hp' := List.pairwise_iff_getElem.mp h
  rcases Nat.lt_or_gt_of_ne hne with q | q
  · exact Nat.ne_of_lt (hp' i j hil hjl q) e'
  · exact Nat.ne_of_lt (hp' j i hjl hil q) e'.symm
theorem off_consR {q : Addr × Obj} {a b : List (Addr × Obj)} (h1 : ∀ p ∈ a, p.1 ≠ q.1) (h2 : Off a b) : Off a (q :: b) := fun p hp x hx => by
  rcases List.mem_cons.mp hx with rfl | hx
  · exact h1 p hp
  · exact h2 p hp x hx
theorem BufA.ok.lt {A : BufA} (h : A.ok) (i j : Nat) (hi : Nat.ble (i + 1) 17 = true) (hj : Nat.ble (j + 1) 17 = true) (hij : Nat.ble (i + 1) j = true) : A.addrs[i]'(Nat.le_of_ble_eq_true hi) < A.addrs[j]'(Nat.le_of_ble_eq_true hj) := List.pairwise_iff_getElem.mp h i j _ _ (Nat.le_of_ble_eq_true hij)
theorem BufA.ok.gap {A : BufA} (h : A.ok) : A.G.ok := ⟨h.lt 2 3 rfl rfl rfl, h.lt 3 4 rfl rfl rfl⟩
theorem BufA.ok.mk {A : BufA} (h : A.ok) : A.M.ok := ⟨h.lt 5 6 rfl rfl rfl, h.lt 6 7 rfl rfl rfl, h.lt 7 9 rfl rfl rfl, h.lt 9 10 rfl rfl rfl, h.lt 10 11 rfl rfl rfl, h.lt 11 12 rfl rfl rfl, h.lt 12 13 rfl rfl rfl, h.lt 13 14 rfl rfl rfl, h.lt 14 15 rfl rfl rfl, h.lt 15 16 rfl rfl rfl⟩
theorem BufA.ok.low {A : BufA} (h : A.ok) : @LT.lt Nat _ A.dx A.bx ∧ @LT.lt Nat _ A.bx A.G.gd ∧ @LT.lt Nat _ A.G.gd A.G.gt ∧ @LT.lt Nat _ A.G.gt A.G.cl ∧ @LT.lt Nat _ A.G.cl A.M.kd ∧ @LT.lt Nat _ A.M.kd A.M.kk ∧ @LT.lt Nat _ A.M.kk A.M.rows ∧ @LT.lt Nat _ A.M.rows A.ls :=
  ⟨h.lt 0 1 rfl rfl rfl, h.lt 1 2 rfl rfl rfl, h.lt 2 3 rfl rfl rfl, h.lt 3 4 rfl rfl rfl, h.lt 4 5 rfl rfl rfl, h.lt 5 6 rfl rfl rfl, h.lt 6 7 rfl rfl rfl, h.lt 7 8 rfl rfl rfl⟩
theorem BufA.ok.top {A : BufA} (h : A.ok) : @LT.lt Nat _ A.ls A.M.d0 ∧ @LT.lt Nat _ A.M.d0 A.M.m0 ∧ @LT.lt Nat _ A.M.m0 A.M.d1 ∧ @LT.lt Nat _ A.M.d1 A.M.m1 ∧ @LT.lt Nat _ A.M.m1 A.M.d2 ∧ @LT.lt Nat _ A.M.d2 A.M.m2 ∧ @LT.lt Nat _ A.M.m2 A.M.d3 ∧ @LT.lt Nat _ A.M.d3 A.M.m3 :=
  ⟨h.lt 8 9 rfl rfl rfl, h.lt 9 10 rfl rfl rfl, h.lt 10 11 rfl rfl rfl, h.lt 11 12 rfl rfl rfl, h.lt 12 13 rfl rfl rfl, h.lt 13 14 rfl rfl rfl, h.lt 14 15 rfl rfl rfl, h.lt 15 16 rfl rfl rfl⟩
theorem sub_buf {P : Params} {A : BufA} {K : BufK} {point begv zv ticks codes : Int} {tp tb tz tt tc : Tok} {l : List (Addr × Obj)}
    (h : Sub (bufL P A ⟨K, point, tp, begv, tb, zv, tz, ticks, tt, codes, tc⟩) l) : Sub (bufL P A ⟨K, point, tp, begv, tb, zv, tz, ticks, tt, codes, tc⟩) l := h

theorem off_appL {a b r : List (Addr × Obj)} (h1 : Off a r) (h2 : Off b r) : Off (a ++ b) r := fun p hp q hq => (List.mem_append.mp hp).elim (fun h => h1 p h q hq) fun h => h2 p h q hq
theorem Cal.weak {w : World} {f : Addr} {args : List Value} {dpn unn : Nat} {small : List (Addr × Obj)} {X : Type} {val : X → Value} {led : X → List (Addr × Obj)} {ok ok' : List (Addr × Obj) → X → Prop}
    (C : Cal w f args dpn unn small val led ok) (h : ∀ rest x, ok rest x → ok' rest x) : Cal w f args dpn unn small val led ok' :=
  fun mean mg mb dp un gdd cn cs a ccd cll outer A₀ base h₀ L m s rest Q E B F X₀ N off T hk hd hu k =>
    C mean mg mb dp un gdd cn cs a ccd cll outer A₀ base h₀ L m s rest Q E B F X₀ N off T hk hd hu fun x h' tk' o => k x h' tk' (h rest x o)
/-- a gap text whose signs are t, with at most n cells -/
def GapT (S : GapS) (t : List Int) (n : Nat) : Prop := ∃ cs, GapOk S cs ∧ txt S cs = t ∧ cs.length ≤ n
theorem gT_size (w : World) (A : GapA) {S : GapS} {t : List Int} {n : Nat} (T : GapT S t n) :
    Cal w 189 [.ref A.gt] 1 8 (gapL w.params A S) (X := Tok) (fun k => .int (t.length : Int) k) (fun _ => gapL w.params A S) (fun _ _ => True) := by
  obtain ⟨cs, G, rfl, h⟩ := T
  rw [txt_len G]
  exact gap_size w A S cs G
theorem gT_codes (w : World) (A : GapA) {S : GapS} {t : List Int} {n : Nat} (T : GapT S t n) (x y : Int) (tx ty : Tok) (h0 : 0 ≤ x) (h1 : x ≤ y) (h2 : y ≤ t.length) :
    Cal w 203 [.ref A.gt, .int x tx, .int y ty] 1 8 (gapL w.params A S) (X := Addr × List Value × Nat) (fun r => .ref r.1) (fun r => (r.1, listOf r.2.1.toArray r.2.2) :: gapL w.params A S) (fun rest r => IntsAre r.2.1 ((t.drop x.toNat).take (y - x).toNat) ∧ ∀ p ∈ gapL w.params A S ++ rest, p.1 < r.1) := by
  obtain ⟨cs, G, rfl, h⟩ := T
  exact gap_codes w A S cs G x y tx ty h0 h1 h2
theorem gT_code (w : World) (A : GapA) (hA : A.ok) {S : GapS} {t : List Int} {n : Nat} (T : GapT S t n) (x : Int) (tx : Tok) (h0 : 0 ≤ x) (h2 : x < t.length) :
    Cal w 196 [.ref A.gt, .int x tx] 1 8 (gapL w.params A S) (X := Tok) (fun k => .int (t.getD x.toNat 0) k) (fun _ => gapL w.params A S) (fun _ _ => True) := by
  obtain ⟨cs, G, rfl, h⟩ := T
  exact gap_code w A hA S cs G x tx h0 h2
theorem gT_put (w : World) (A : GapA) (hA : A.ok) {S : GapS} {t : List Int} {n : Nat} (T : GapT S t n) (x y : Int) (tx ty : Tok) (h0 : 0 ≤ x) (h2 : x < t.length) :
    Cal w 238 [.ref A.gt, .int x tx, .int y ty] 1 8 (gapL w.params A S) (X := GapS) (fun r => .none) (fun r => gapL w.params A r) (fun _ r => GapT r (t.set x.toNat y) n) := by
  obtain ⟨cs, G, rfl, h⟩ := T
  exact (gap_put w A hA S cs G x y tx ty h0 h2).weak fun _ r ⟨_, cs', G', e, e'⟩ => ⟨cs', G', e', e ▸ h⟩
theorem gT_delete (w : World) (A : GapA) (hA : A.ok) {S : GapS} {t : List Int} {n : Nat} (T : GapT S t n) (x y : Int) (tx ty : Tok) (h0 : 0 ≤ x) (h1 : x ≤ y) (h2 : y ≤ t.length) :
    Cal w 231 [.ref A.gt, .int x tx, .int y ty] 4 40 (gapL w.params A S) (X := GapS × Addr) (fun r => .ref r.2) (fun r => gapL w.params A r.1) (fun _ r => GapT r.1 (t.take x.toNat ++ t.drop y.toNat) n) := by
  obtain ⟨cs, G, rfl, h⟩ := T
  exact (gap_delete w A hA S cs G x y tx ty h0 h1 h2).weak fun _ r ⟨_, cs', G', e, e'⟩ => ⟨cs', G', e', e ▸ h⟩
theorem gT_insert (w : World) (A : GapA) (hA : A.ok) {S : GapS} {t : List Int} {n : Nat} (T : GapT S t n) (x : Int) (tx : Tok) (c : Addr) (vs : List Value) (ms : List Int) (k : Nat) (hv : IntsAre vs ms) (h0 : 0 ≤ x) (h2 : x ≤ t.length) (h3 : n ≤ 900) (h4 : ms.length ≤ 40) (hc1 : @Ne Nat c A.gt) (hc2 : @Ne Nat c A.gd) (hc3 : @Ne Nat c A.cl) :
    Cal w 224 [.ref A.gt, .int x tx, .ref c] 4 40 (gapL w.params A S ++ [(c, listOf vs.toArray k)]) (X := GapS) (fun r => .none) (fun r => gapL w.params A r ++ [(c, listOf vs.toArray k)]) (fun _ r => GapT r (t.take x.toNat ++ ms ++ t.drop x.toNat) (n + 42)) := by
  obtain ⟨cs, G, rfl, h⟩ := T
  exact (gap_insert w A hA S cs G x tx c vs ms k hv h0 h2 (Nat.le_trans h h3) h4 hc1 hc2 hc3).weak fun _ r ⟨_, cs', G', e, e'⟩ => ⟨cs', G', e', Nat.le_trans e (Nat.add_le_add_right h 42)⟩
def BufS.same (B r : BufS) : Prop := r.point = B.point ∧ r.begv = B.begv ∧ r.zv = B.zv
theorem sub_bufX {P : Params} {A : BufA} {k0 k1 k2 k3 k4 k5 k6 k7 k8 k9 k10 k11 k12 k13 k14 k15 k16 k17 k18 k19 : Tok} {number name saved : Value} {n : Nat} {point begv zv ticks codes : Int} {tp tb tz tt tc : Tok} {t l : List (Addr × Obj)}
    (h : Sub ((A.bx, instObj 506 A.dx) :: (A.dx, dictOf [⟨PyData.keyHash P (Str.ofString "number"), .str (Str.ofString "number") k0, number⟩,
   ⟨PyData.keyHash P (Str.ofString "name"), .str (Str.ofString "name") k1, name⟩,
   ⟨PyData.keyHash P (Str.ofString "text"), .str (Str.ofString "text") k2, .ref A.G.gt⟩,
   ⟨PyData.keyHash P (Str.ofString "markers"), .str (Str.ofString "markers") k3, .ref A.M.kk⟩,
   ⟨PyData.keyHash P (Str.ofString "point"), .str (Str.ofString "point") k4, .int point tp⟩,
   ⟨PyData.keyHash P (Str.ofString "begv"), .str (Str.ofString "begv") k5, .int begv tb⟩,
   ⟨PyData.keyHash P (Str.ofString "zv"), .str (Str.ofString "zv") k6, .int zv tz⟩,
   ⟨PyData.keyHash P (Str.ofString "mark"), .str (Str.ofString "mark") k7, .none⟩,
   ⟨PyData.keyHash P (Str.ofString "is_live"), .str (Str.ofString "is_live") k8, .bool true⟩,
   ⟨PyData.keyHash P (Str.ofString "is_read_only"), .str (Str.ofString "is_read_only") k9, .bool false⟩,
   ⟨PyData.keyHash P (Str.ofString "ticks"), .str (Str.ofString "ticks") k10, .int ticks tt⟩,
   ⟨PyData.keyHash P (Str.ofString "codes_ticks"), .str (Str.ofString "codes_ticks") k11, .int codes tc⟩,
   ⟨PyData.keyHash P (Str.ofString "saved_ticks"), .str (Str.ofString "saved_ticks") k12, saved⟩,
   ⟨PyData.keyHash P (Str.ofString "listeners"), .str (Str.ofString "listeners") k13, .ref A.ls⟩,
   ⟨PyData.keyHash P (Str.ofString "undo"), .str (Str.ofString "undo") k14, .none⟩,
   ⟨PyData.keyHash P (Str.ofString "props"), .str (Str.ofString "props") k15, .none⟩,
   ⟨PyData.keyHash P (Str.ofString "overlays"), .str (Str.ofString "overlays") k16, .none⟩,
   ⟨PyData.keyHash P (Str.ofString "locals"), .str (Str.ofString "locals") k17, .none⟩,
   ⟨PyData.keyHash P (Str.ofString "syntax"), .str (Str.ofString "syntax") k18, .none⟩,
   ⟨PyData.keyHash P (Str.ofString "file"), .str (Str.ofString "file") k19, .none⟩] 20) :: (A.ls, listOf #[] n) :: t) l) :
    Sub (bufL P A ⟨⟨k0, k1, k2, k3, k4, k5, k6, k7, k8, k9, k10, k11, k12, k13, k14, k15, k16, k17, k18, k19, number, name, saved, n⟩, point, tp, begv, tb, zv, tz, ticks, tt, codes, tc⟩ ++ t) l := h
/-- where point comes when the text from x to y goes -/
def pOut (x y p : Int) : Int := if x < p then max x (p - (y - x)) else p
/-- where point comes when k signs come at x -/
def pIn (x k p : Int) : Int := if x < p then p + k else p
theorem off_grp {A : BufA} (h : A.ok) (I J : List Nat) {a b : List (Addr × Obj)} (d : (I.all fun i => Nat.blt i A.addrs.length && J.all fun j => Nat.blt j A.addrs.length && !(Nat.beq i j)) = true)
    (ha : a.map (fun p => (p.1 : Nat)) = I.map (fun i => A.addrs.getD i 0)) (hb : b.map (fun p => (p.1 : Nat)) = J.map (fun i => A.addrs.getD i 0)) : Off a b := off_idx h I J d ha hb
theorem off_appR {a b r : List (Addr × Obj)} (h1 : Off a b) (h2 : Off a r) : Off a (b ++ r) := fun p hp q hq => (List.mem_append.mp hq).elim (fun h => h1 p hp q h) fun h => h2 p hp q h
theorem off_ofL {a b r : List (Addr × Obj)} (h : Off (a ++ b) r) : Off a r := fun p hp q hq => h p (List.mem_append_left _ hp) q hq
theorem off_ofR {a b r : List (Addr × Obj)} (h : Off (a ++ b) r) : Off b r := fun p hp q hq => h p (List.mem_append_right _ hp) q hq
inductive PartS : List (Addr × Obj) → List (Addr × Obj) → List (Addr × Obj) → Prop
  | one {a l r} : Part a l r → PartS a l r
  | split {a b l q r} : PartS a l q → PartS b q r → PartS (a ++ b) l r
theorem PartS.sub {a l r : List (Addr × Obj)} (x : PartS a l r) : Sub (a ++ r) l := by
  induction x with
  | one h => exact h.sub
  | split _ _ ih1 ih2 =>
    intro p hp
    rcases List.mem_append.mp hp with h | h
    · rcases List.mem_append.mp h with h | h
      · exact ih1 p (List.mem_append_left _ h)
      · exact ih1 p (List.mem_append_right _ (ih2 p (List.mem_append_left _ h)))
    · exact ih1 p (List.mem_append_right _ (ih2 p (List.mem_append_right _ h)))
theorem Cal.useS {w : World} {f : Addr} {args : List Value} {dpn unn : Nat} {small news rest : List (Addr × Obj)} {X : Type} {val : X → Value} {led : X → List (Addr × Obj)} {ok : List (Addr × Obj) → X → Prop} {mean : ExcName → Option Value} {mg mb : Str → Option Value} {dp un : Nat} {gdd : Option (List Code)} {cn : Str} {cs : Scope} {a : Addr} {ccd : Value} {cll : List (Str × Addr)} {outer : List Env} {A₀ : Around} {base h₀ : Heap} {L : Addr} {m : Str → Option Value} {s : Shared} {Q E : Value → Shared → Prop}
    (C : Cal w f args dpn unn small val led ok) (B : Below A₀ base outer h₀) (F : Fr h₀ L s.heap m) (X₀ : (hd.heap_1 w.params).In h₀) (N : News h₀ L s.heap news) (P : PartS small news rest) (off : Off small rest) (T : Top H.qv (looseW H.qv LS) mean mg mb h₀) (hk : cs.kind = .function) (hd : dp + dpn < recursionLimit) (hu : un + unn < cLine)
    (h : ∀ (x : X) (h' : Heap) (tk' : Nat), ok rest x → Fr h₀ L h' m → News h₀ L h' (led x ++ rest) → Q (val x) { s with heap := h', toks := tk' }) :
    wpAny (model PG w) (ktrTop dp un gdd cn cs L a ccd cll outer) (call (.ref f) args) Q E s := C mean mg mb dp un gdd cn cs a ccd cll outer A₀ base h₀ L m s rest Q E B F X₀ (News.sub N P.sub) off T hk hd hu h
theorem sub_pre (a r : List (Addr × Obj)) : Sub a (a ++ r) := fun _ h => List.mem_append_left _ h
theorem sub_app {a b l : List (Addr × Obj)} (h1 : Sub a l) (h2 : Sub b l) : Sub (a ++ b) l := fun p hp => (List.mem_append.mp hp).elim (h1 p) (h2 p)
theorem GapT.small {S : GapS} {t : List Int} {n : Nat} (T : GapT S t n) : (t.length : Int) ≤ 1000 ∧ (t.length : Int) ≤ n := by
  obtain ⟨cs, G, rfl, h⟩ := T
  have e := txt_len G
  obtain ⟨_, g0, g1, g2, _, _, g5⟩ := G
  omega
def pairO (a : Int) (ta : Tok) (b : Int) (tb : Tok) : Obj := { cls := .type "tuple", data := .seq #[.int a ta, .int b tb] }
/-- a buffer's dict after a store, folded again (it stands at the head) -/
theorem foldB {P : Params} {A : BufA} {K : BufK} {point begv zv ticks codes : Int} {tp tb tz tt tc : Tok} {t : List (Addr × Obj)} {h₀ h : Heap} {L : Addr}
    (N : News h₀ L h ((A.bx, instObj 506 A.dx) :: (A.dx, dictOf [⟨PyData.keyHash P (Str.ofString "number"), .str (Str.ofString "number") K.k0, K.number⟩,
   ⟨PyData.keyHash P (Str.ofString "name"), .str (Str.ofString "name") K.k1, K.name⟩,
   ⟨PyData.keyHash P (Str.ofString "text"), .str (Str.ofString "text") K.k2, .ref A.G.gt⟩,
   ⟨PyData.keyHash P (Str.ofString "markers"), .str (Str.ofString "markers") K.k3, .ref A.M.kk⟩,
   ⟨PyData.keyHash P (Str.ofString "point"), .str (Str.ofString "point") K.k4, .int point tp⟩,
   ⟨PyData.keyHash P (Str.ofString "begv"), .str (Str.ofString "begv") K.k5, .int begv tb⟩,
   ⟨PyData.keyHash P (Str.ofString "zv"), .str (Str.ofString "zv") K.k6, .int zv tz⟩,
   ⟨PyData.keyHash P (Str.ofString "mark"), .str (Str.ofString "mark") K.k7, .none⟩,
   ⟨PyData.keyHash P (Str.ofString "is_live"), .str (Str.ofString "is_live") K.k8, .bool true⟩,
   ⟨PyData.keyHash P (Str.ofString "is_read_only"), .str (Str.ofString "is_read_only") K.k9, .bool false⟩,
   ⟨PyData.keyHash P (Str.ofString "ticks"), .str (Str.ofString "ticks") K.k10, .int ticks tt⟩,
   ⟨PyData.keyHash P (Str.ofString "codes_ticks"), .str (Str.ofString "codes_ticks") K.k11, .int codes tc⟩,
   ⟨PyData.keyHash P (Str.ofString "saved_ticks"), .str (Str.ofString "saved_ticks") K.k12, K.saved⟩,
   ⟨PyData.keyHash P (Str.ofString "listeners"), .str (Str.ofString "listeners") K.k13, .ref A.ls⟩,
   ⟨PyData.keyHash P (Str.ofString "undo"), .str (Str.ofString "undo") K.k14, .none⟩,
   ⟨PyData.keyHash P (Str.ofString "props"), .str (Str.ofString "props") K.k15, .none⟩,
   ⟨PyData.keyHash P (Str.ofString "overlays"), .str (Str.ofString "overlays") K.k16, .none⟩,
   ⟨PyData.keyHash P (Str.ofString "locals"), .str (Str.ofString "locals") K.k17, .none⟩,
   ⟨PyData.keyHash P (Str.ofString "syntax"), .str (Str.ofString "syntax") K.k18, .none⟩,
   ⟨PyData.keyHash P (Str.ofString "file"), .str (Str.ofString "file") K.k19, .none⟩] 20) :: t)) :
    News h₀ L h ((A.bx, instObj 506 A.dx) :: (A.dx, dictOf (bufD P A ⟨K, point, tp, begv, tb, zv, tz, ticks, tt, codes, tc⟩) 20) :: t) := N

/-- an address outside the group -/
def NotIn (A : BufA) (c : Addr) : Prop := ∀ x ∈ A.addrs, @Ne Nat c x
theorem NotIn.at {A : BufA} {c : Addr} (h : NotIn A c) (i : Nat) (hi : Nat.ble (i + 1) 17 = true) : @Ne Nat c (A.addrs[i]'(Nat.le_of_ble_eq_true hi)) := h _ (List.getElem_mem _)
theorem NotIn.low {A : BufA} {c : Addr} (h : NotIn A c) : @Ne Nat c A.dx ∧ @Ne Nat c A.bx ∧ @Ne Nat c A.G.gd ∧ @Ne Nat c A.G.gt ∧ @Ne Nat c A.G.cl ∧ @Ne Nat c A.ls := ⟨h.at 0 rfl, h.at 1 rfl, h.at 2 rfl, h.at 3 rfl, h.at 4 rfl, h.at 8 rfl⟩
theorem NotIn.off {A : BufA} {c : Addr} {l : List (Addr × Obj)} (h : NotIn A c) (I : List Nat) (d : (I.all fun i => Nat.blt i 17) = true) (ha : l.map (fun p => (p.1 : Nat)) = I.map (fun i => A.addrs.getD i 0)) : ∀ p ∈ l, p.1 ≠ c := by
  intro p hp e
  have h1 : (p.1 : Nat) ∈ I.map (fun i => A.addrs.getD i 0) := ha ▸ List.mem_map_of_mem hp
  obtain ⟨i, hi, ei⟩ := List.mem_map.mp h1
  have hil : i < 17 := Nat.le_of_ble_eq_true (List.all_eq_true.mp d i hi)
  have e1 : A.addrs.getD i 0 = A.addrs[i]'hil := by simp [List.getD_eq_getElem?_getD, List.getElem?_eq_getElem (show i < A.addrs.length from hil)]; rfl
  exact h.at i (Nat.ble_eq_true_of_le hil) (by rw [← e1, ei]; exact e.symm)

end Mine

end Lay5

section Lay6
open PySem PySem.Spec PySem.Calls PySem.W PyProof.Rows

theorem Mine.lay6 : True := by
  w_top off
  k_with "~L6:ktr_room" => k_extra "~w0"
  k_with "~L6:k_ne" => k_extra "~w1"
  k_with "~L6:ktr_room" => k_extra "~w2"
  k_with "~L6:ktr_units" => k_extra "~w2"
  k_with "~L6:ktr_room" => k_extra "~w3"
  k_with "~L6:ktr_units" => k_extra "~w4"
  k_with "~L6:is_list" => k_extra "~w5"
  k_with "~L6:k_enter" => k_extra "~w20"
  k_with "~L6:k_subL" => k_extra "~w7"
  k_with "~L6:k_clsL" => k_extra "~w9"
  k_with "~L6:k_offL" => k_extra "~w21"
  k_with "~L6:k_clsL" => k_extra "~w22"
  k_with "~L6:k_subL" => k_extra "~w23"
  trivial

namespace Mine

/-! the ledger in segments that stay folded -/
inductive Cut : List (Addr × Obj) → List (Addr × Obj) → List (Addr × Obj) → Prop
  | whole (a) : Cut a a []
  | app (a r) : Cut a (a ++ r) r
  | last (g a) : Cut a (g ++ a) g
  | pick (p l) : Cut [p] (p :: l) l
  | inL (g) {a l r} : Cut a l r → Cut a (l ++ g) (r ++ g)
  | inR (g) {a l r} : Cut a l r → Cut a (g ++ l) (g ++ r)
  | cons (p) {a l r} : Cut a l r → Cut a (p :: l) (p :: r)
  | two {a b l q r} : Cut a l q → Cut b q r → Cut (a ++ b) l r
  | drop (p) {a l r} : Cut a l r → Cut a (p :: l) r
theorem Cut.dropR {p : Addr × Obj} {a l r : List (Addr × Obj)} (h : Cut a l r) : Cut a ([p] ++ l) r := .drop p h
theorem Cut.sub {a l r : List (Addr × Obj)} (x : Cut a l r) : Sub (a ++ r) l := by
  induction x with
  | whole a => intro p hp; simpa using hp
  | app a r => exact Sub.refl _
  | last g a => intro p hp; exact List.mem_append.mpr (List.mem_append.mp hp).symm
  | pick p l => exact Sub.refl _
  | inL g _ ih =>
    intro p hp
    rcases List.mem_append.mp hp with h | h
    · exact List.mem_append_left _ (ih p (List.mem_append_left _ h))
    · rcases List.mem_append.mp h with h | h
      · exact List.mem_append_left _ (ih p (List.mem_append_right _ h))
      · exact List.mem_append_right _ h
  | inR g _ ih =>
    intro p hp
    rcases List.mem_append.mp hp with h | h
    · exact List.mem_append_right _ (ih p (List.mem_append_left _ h))
    · rcases List.mem_append.mp h with h | h
      · exact List.mem_append_left _ h
      · exact List.mem_append_right _ (ih p (List.mem_append_right _ h))
  | cons q _ ih =>
    intro p hp
    rcases List.mem_append.mp hp with h | h
    · exact List.mem_cons_of_mem _ (ih p (List.mem_append_left _ h))
    · rcases List.mem_cons.mp h with rfl | h
      · exact List.mem_cons_self
      · exact List.mem_cons_of_mem _ (ih p (List.mem_append_right _ h))
  | two _ _ ih1 ih2 =>
    intro p hp
    rcases List.mem_append.mp hp with h | h
    · rcases List.mem_append.mp h with h | h
      · exact ih1 p (List.mem_append_left _ h)
      · exact ih1 p (List.mem_append_right _ (ih2 p (List.mem_append_left _ h)))
    · exact ih1 p (List.mem_append_right _ (ih2 p (List.mem_append_right _ h)))
  | drop q _ ih => exact fun p hp => List.mem_cons_of_mem _ (ih p hp)
theorem Cal.useC {w : World} {f : Addr} {args : List Value} {dpn unn : Nat} {small news rest : List (Addr × Obj)} {X : Type} {val : X → Value} {led : X → List (Addr × Obj)} {ok : List (Addr × Obj) → X → Prop} {mean : ExcName → Option Value} {mg mb : Str → Option Value} {dp un : Nat} {gdd : Option (List Code)} {cn : Str} {cs : Scope} {a : Addr} {ccd : Value} {cll : List (Str × Addr)} {outer : List Env} {A₀ : Around} {base h₀ : Heap} {L : Addr} {m : Str → Option Value} {s : Shared} {Q E : Value → Shared → Prop}
    (C : Cal w f args dpn unn small val led ok) (B : Below A₀ base outer h₀) (F : Fr h₀ L s.heap m) (X₀ : (hd.heap_1 w.params).In h₀) (N : News h₀ L s.heap news) (P : Cut small news rest) (off : Off small rest) (T : Top H.qv (looseW H.qv LS) mean mg mb h₀) (hk : cs.kind = .function) (hd : dp + dpn < recursionLimit) (hu : un + unn < cLine)
    (h : ∀ (x : X) (h' : Heap) (tk' : Nat), ok rest x → Fr h₀ L h' m → News h₀ L h' (led x ++ rest) → Q (val x) { s with heap := h', toks := tk' }) :
    wpAny (model PG w) (ktrTop dp un gdd cn cs L a ccd cll outer) (call (.ref f) args) Q E s := C mean mg mb dp un gdd cn cs a ccd cll outer A₀ base h₀ L m s rest Q E B F X₀ (News.sub N P.sub) off T hk hd hu h

/-- the same where all else of the ledger is let go -/
theorem Cal.useD {w : World} {f : Addr} {args : List Value} {dpn unn : Nat} {small news : List (Addr × Obj)} {X : Type} {val : X → Value} {led : X → List (Addr × Obj)} {ok : List (Addr × Obj) → X → Prop} {mean : ExcName → Option Value} {mg mb : Str → Option Value} {dp un : Nat} {gdd : Option (List Code)} {cn : Str} {cs : Scope} {a : Addr} {ccd : Value} {cll : List (Str × Addr)} {outer : List Env} {A₀ : Around} {base h₀ : Heap} {L : Addr} {m : Str → Option Value} {s : Shared} {Q E : Value → Shared → Prop}
    (C : Cal w f args dpn unn small val led ok) (B : Below A₀ base outer h₀) (F : Fr h₀ L s.heap m) (X₀ : (hd.heap_1 w.params).In h₀) (N : News h₀ L s.heap news) (P : Sub small news) (T : Top H.qv (looseW H.qv LS) mean mg mb h₀) (hk : cs.kind = .function) (hd : dp + dpn < recursionLimit) (hu : un + unn < cLine)
    (h : ∀ (x : X) (h' : Heap) (tk' : Nat), ok [] x → Fr h₀ L h' m → News h₀ L h' (led x) → Q (val x) { s with heap := h', toks := tk' }) :
    wpAny (model PG w) (ktrTop dp un gdd cn cs L a ccd cll outer) (call (.ref f) args) Q E s := C mean mg mb dp un gdd cn cs a ccd cll outer A₀ base h₀ L m s [] Q E B F X₀ (by rw [List.append_nil]; exact News.sub N P) (off_nil _) T hk hd hu fun x h' tk' o F' N' => h x h' tk' o F' (by rw [List.append_nil] at N'; exact N')

section
variable {P : Params} {A : BufA} {B B' : BufS} {S S' : GapS} {K K' : MkS} {D : Addr} {l : List (Addr × Obj)}
theorem seg_bx (h : Sub (bufL P A B) l) : (A.bx, instObj 506 A.dx) ∈ l := h _ (.head _)
theorem seg_dx (h : Sub (bufL P A B) l) : (A.dx, dictOf (bufD P A B) 20) ∈ l := h _ (.tail _ (.head _))
theorem seg_ls (h : Sub (bufL P A B) l) : (A.ls, listOf #[] B.K.n) ∈ l := h _ (.tail _ (.tail _ (.head _)))
theorem seg_gt {G : GapA} (h : Sub (gapL P G S) l) : (G.gt, instObj 255 G.gd) ∈ l := h _ (.head _)
theorem seg_gd {G : GapA} (h : Sub (gapL P G S) l) : (G.gd, dictOf (gapD P G S) 4) ∈ l := h _ (.tail _ (.head _))
theorem seg_kk {M : MkA} (h : Sub (mkL P M K) l) : (M.kk, instObj 400 M.kd) ∈ l := h _ (.head _)
theorem seg_kd {M : MkA} (h : Sub (mkL P M K) l) : (M.kd, dictOf [⟨PyData.keyHash P (Str.ofString "rows"), .str (Str.ofString "rows") K.k, .ref M.rows⟩] 1) ∈ l := h _ (.tail _ (.head _))
theorem off_bg (h : A.ok) : Off (bufL P A B) (gapL P A.G S) := off_grp h [1, 0, 8] [3, 2, 4] rfl rfl rfl
theorem off_gb (h : A.ok) : Off (gapL P A.G S) (bufL P A B) := off_grp h [3, 2, 4] [1, 0, 8] rfl rfl rfl
theorem off_bm (h : A.ok) : Off (bufL P A B) (mkL P A.M K) := off_grp h [1, 0, 8] [6, 5, 7, 10, 9, 12, 11, 14, 13, 16, 15] rfl rfl rfl
theorem off_mb (h : A.ok) : Off (mkL P A.M K) (bufL P A B) := off_grp h [6, 5, 7, 10, 9, 12, 11, 14, 13, 16, 15] [1, 0, 8] rfl rfl rfl
theorem off_gm (h : A.ok) : Off (gapL P A.G S) (mkL P A.M K) := off_grp h [3, 2, 4] [6, 5, 7, 10, 9, 12, 11, 14, 13, 16, 15] rfl rfl rfl
theorem off_mg (h : A.ok) : Off (mkL P A.M K) (gapL P A.G S) := off_grp h [6, 5, 7, 10, 9, 12, 11, 14, 13, 16, 15] [3, 2, 4] rfl rfl rfl
theorem hi_idx (h : A.ok) (hD : @LT.lt Nat _ A.M.m3 D) (I : List Nat) (d : (I.all fun i => Nat.blt i 17) = true) (ha : l.map (fun p => (p.1 : Nat)) = I.map (fun i => A.addrs.getD i 0)) : ∀ p ∈ l, p.1 ≠ D := by
  intro p hp
  have h1 : (p.1 : Nat) ∈ I.map (fun i => A.addrs.getD i 0) := ha ▸ List.mem_map_of_mem hp
  obtain ⟨i, hi, ei⟩ := List.mem_map.mp h1
  have hil : i < 17 := Nat.le_of_ble_eq_true (List.all_eq_true.mp d i hi)
  refine Nat.ne_of_lt (Nat.lt_of_le_of_lt ?_ hD)
  have hp' := List.pairwise_iff_getElem.mp h
  have e : A.addrs.getD i 0 = A.addrs[i]'hil := by simp [List.getD_eq_getElem?_getD, List.getElem?_eq_getElem (show i < A.addrs.length from hil)]; rfl
  rw [← ei, e]
  rcases Nat.lt_or_ge i 16 with q | q
  · exact Nat.le_of_lt (hp' i 16 hil (show 16 < 17 by decide) q)
  · have : i = 16 := by omega
    subst this
    exact Nat.le_refl _
theorem hi_buf (h : A.ok) (hD : @LT.lt Nat _ A.M.m3 D) : ∀ p ∈ bufL P A B, p.1 ≠ D := hi_idx h hD [1, 0, 8] rfl rfl
theorem hi_gap (h : A.ok) (hD : @LT.lt Nat _ A.M.m3 D) : ∀ p ∈ gapL P A.G S, p.1 ≠ D := hi_idx h hD [3, 2, 4] rfl rfl
theorem hi_mk (h : A.ok) (hD : @LT.lt Nat _ A.M.m3 D) : ∀ p ∈ mkL P A.M K, p.1 ≠ D := hi_idx h hD [6, 5, 7, 10, 9, 12, 11, 14, 13, 16, 15] rfl rfl
theorem hi_of (h : ∀ p ∈ l, p.1 < D) (s : Sub (mkL P A.M K) l) : @LT.lt Nat _ A.M.m3 D := h _ (s (A.M.m3, instObj 332 A.M.d3) (by simp [mkL, mksL]))
theorem lo_idx (h : A.ok) (hD : @LT.lt Nat _ A.ls D) (I : List Nat) (d : (I.all fun i => Nat.blt i 9) = true) (ha : l.map (fun p => (p.1 : Nat)) = I.map (fun i => A.addrs.getD i 0)) : ∀ p ∈ l, p.1 ≠ D := by
  intro p hp
  have h1 : (p.1 : Nat) ∈ I.map (fun i => A.addrs.getD i 0) := ha ▸ List.mem_map_of_mem hp
  obtain ⟨i, hi, ei⟩ := List.mem_map.mp h1
  have hil : i < 9 := Nat.le_of_ble_eq_true (List.all_eq_true.mp d i hi)
  refine Nat.ne_of_lt (Nat.lt_of_le_of_lt ?_ hD)
  have hp' := List.pairwise_iff_getElem.mp h
  have e : A.addrs.getD i 0 = A.addrs[i]'(Nat.lt_trans hil (show 9 < 17 by decide)) := by simp [List.getD_eq_getElem?_getD, List.getElem?_eq_getElem (show i < A.addrs.length from Nat.lt_trans hil (show 9 < 17 by decide))]; rfl
  rw [← ei, e]
  rcases Nat.lt_or_ge i 8 with q | q
  · exact Nat.le_of_lt (hp' i 8 (Nat.lt_trans hil (show 9 < 17 by decide)) (show 8 < 17 by decide) q)
  · have : i = 8 := by omega
    subst this
    exact Nat.le_refl _
theorem lo_buf (h : A.ok) (hD : @LT.lt Nat _ A.ls D) : ∀ p ∈ bufL P A B, p.1 ≠ D := lo_idx h hD [1, 0, 8] rfl rfl
theorem lo_gap (h : A.ok) (hD : @LT.lt Nat _ A.ls D) : ∀ p ∈ gapL P A.G S, p.1 ≠ D := lo_idx h hD [3, 2, 4] rfl rfl
theorem lo_of (h : ∀ p ∈ l, p.1 < D) (s : Sub (bufL P A B) l) : @LT.lt Nat _ A.ls D := h _ (s (A.ls, listOf #[] B.K.n) (.tail _ (.tail _ (.head _))))
theorem ne_sym {a b : Nat} (h : a ≠ b) : b ≠ a := h.symm
theorem all_swap {D : Addr} (h : ∀ p ∈ l, p.1 ≠ D) : ∀ p ∈ l, D ≠ p.1 := fun p hp e => h p hp e.symm
theorem sub_l {a l r : List (Addr × Obj)} (h : Sub a l) : Sub a (l ++ r) := fun p hp => List.mem_append_left _ (h p hp)
theorem sub_r {a l r : List (Addr × Obj)} (h : Sub a l) : Sub a (r ++ l) := fun p hp => List.mem_append_right _ (h p hp)
theorem sub_one {p : Addr × Obj} (h : p ∈ l) : Sub [p] l := fun q hq => by rcases List.mem_singleton.mp hq with rfl; exact h
theorem sub_cons {p : Addr × Obj} {a : List (Addr × Obj)} (h : p ∈ l) (h' : Sub a l) : Sub (p :: a) l := fun q hq => by
  rcases List.mem_cons.mp hq with rfl | hq
  · exact h
  · exact h' q hq
theorem updF_l {d : Addr} {o : Obj} {a b : List (Addr × Obj)} {g : Obj → List (Addr × Obj)} (h : UpdF d o a g) (hb : ∀ p ∈ b, p.1 ≠ d) : UpdF d o (a ++ b) (fun o' => g o' ++ b) := by
  induction h with
  | head h1 => exact .head fun p hp => (List.mem_append.mp hp).elim (h1 p) (hb p)
  | tail h1 _ ih => exact .tail h1 ih
theorem updF_r {d : Addr} {o : Obj} {b : List (Addr × Obj)} {g : Obj → List (Addr × Obj)} (h : UpdF d o b g) : ∀ {a : List (Addr × Obj)}, (∀ p ∈ a, p.1 ≠ d) → UpdF d o (a ++ b) (fun o' => a ++ g o')
  | [], _ => h
  | q :: a, ha => .tail (ha q (.head _)) (updF_r h (a := a) fun p hp => ha p (.tail _ hp))
end
theorem off_sub {a b : List (Addr × Obj)} {p : Addr × Obj} (h : ∀ q ∈ b, q.1 ≠ p.1) : Off [p] b := off_cons h (off_none _)

section
variable {w : World} {A₀ : Around} {Ar : Around} {E : Value → Shared → Prop} {s : Shared} {h₀ : Heap} {L : Addr} {m : Str → Option Value} {news rest : List (Addr × Obj)} {A : BufA} {B B' : BufS} {name : Str} {v : Value}
/-- a store into the buffer's own dict, the rest folded -/
theorem buf_set {Q : Unit → Shared → Prop} {K : Frag} (B' : BufS) (hs : findIn K (.ref 506) "__setattr__" = some (some (.builtin "object.__setattr__"))) (hp : plainOver K 506 = true) (ht : takerIn K 506 name = some none) (hh : hasDictIn K 506 = true)
    (F : Fr h₀ L s.heap m) (X₀ : K.In h₀) (hA : A.ok) (N : News h₀ L s.heap news) (P : Cut (bufL w.params A B) news rest) (off : Off (bufL w.params A B) rest)
    (hl : (getL name (bufD w.params A B)).isSome = true) (e : (putL name (PyData.keyHash w.params name) (.str name (s.toks + 1)) v (bufD w.params A B), putN name (bufD w.params A B) 20) = (bufD w.params A B', 20)) (en : B'.K.n = B.K.n)
    (h : ∀ h', Fr h₀ L h' m → News h₀ L h' (bufL w.params A B' ++ rest) → Q () { s with heap := h', toks := s.toks + 2 }) :
    wpAny (model PG w) Ar (setAttr (.ref A.bx) name v) Q E s := by
  have N1 := News.sub N P.sub
  have lo := hA.low
  have n1 : A.bx ≠ A.dx := fun e => Nat.lt_irrefl _ (e ▸ lo.1)
  have n2 : A.ls ≠ A.dx := fun e => by
    have h1 := lo.1
    have h2 : @LT.lt Nat _ A.dx A.ls := hA.lt 0 8 rfl rfl rfl
    exact Nat.lt_irrefl _ (e ▸ h2)
  refine set_dict (es' := bufD w.params A B') (n' := 20) (dx := A.dx) F X₀ N1 (InstAt.of_news N1 (seg_bx (B := B) (sub_pre _ _)) (seg_dx (sub_pre _ _))) rfl hs hp ht hh hl e (.tail n1 (.head ?_)) (Nat.le_of_ble_eq_true rfl) fun h' F' N' => h h' F' ?_
  · intro p hp
    rcases List.mem_cons.mp hp with rfl | hp
    · exact n2
    · exact fun e => off (A.dx, dictOf (bufD w.params A B) 20) (.tail _ (.head _)) p hp e.symm
  · refine News.sub N' (fun p hp => ?_)
    have e1 : bufL w.params A B' = [(A.bx, instObj 506 A.dx), (A.dx, dictOf (bufD w.params A B') 20), (A.ls, listOf #[] B.K.n)] := by rw [← en]; rfl
    rw [e1] at hp
    exact hp
theorem buf_set_point {Q : Unit → Shared → Prop} {K : Frag} {x : Int} {t : Tok} (hs : findIn K (.ref 506) "__setattr__" = some (some (.builtin "object.__setattr__"))) (hp : plainOver K 506 = true) (ht : takerIn K 506 (Str.ofString "point") = some none) (hh : hasDictIn K 506 = true)
    (F : Fr h₀ L s.heap m) (X₀ : K.In h₀) (hA : A.ok) (N : News h₀ L s.heap news) (P : Cut (bufL w.params A B) news rest) (off : Off (bufL w.params A B) rest)
    (h : ∀ h', Fr h₀ L h' m → News h₀ L h' (bufL w.params A { B with point := x, tp := t } ++ rest) → Q () { s with heap := h', toks := s.toks + 2 }) :
    wpAny (model PG w) Ar (setAttr (.ref A.bx) (Str.ofString "point") (.int x t)) Q E s :=
  buf_set { B with point := x, tp := t } hs hp ht hh F X₀ hA N P off (by k_get) (by k_put) rfl h
theorem buf_set_begv {Q : Unit → Shared → Prop} {K : Frag} {x : Int} {t : Tok} (hs : findIn K (.ref 506) "__setattr__" = some (some (.builtin "object.__setattr__"))) (hp : plainOver K 506 = true) (ht : takerIn K 506 (Str.ofString "begv") = some none) (hh : hasDictIn K 506 = true)
    (F : Fr h₀ L s.heap m) (X₀ : K.In h₀) (hA : A.ok) (N : News h₀ L s.heap news) (P : Cut (bufL w.params A B) news rest) (off : Off (bufL w.params A B) rest)
    (h : ∀ h', Fr h₀ L h' m → News h₀ L h' (bufL w.params A { B with begv := x, tb := t } ++ rest) → Q () { s with heap := h', toks := s.toks + 2 }) :
    wpAny (model PG w) Ar (setAttr (.ref A.bx) (Str.ofString "begv") (.int x t)) Q E s :=
  buf_set { B with begv := x, tb := t } hs hp ht hh F X₀ hA N P off (by k_get) (by k_put) rfl h
theorem buf_set_zv {Q : Unit → Shared → Prop} {K : Frag} {x : Int} {t : Tok} (hs : findIn K (.ref 506) "__setattr__" = some (some (.builtin "object.__setattr__"))) (hp : plainOver K 506 = true) (ht : takerIn K 506 (Str.ofString "zv") = some none) (hh : hasDictIn K 506 = true)
    (F : Fr h₀ L s.heap m) (X₀ : K.In h₀) (hA : A.ok) (N : News h₀ L s.heap news) (P : Cut (bufL w.params A B) news rest) (off : Off (bufL w.params A B) rest)
    (h : ∀ h', Fr h₀ L h' m → News h₀ L h' (bufL w.params A { B with zv := x, tz := t } ++ rest) → Q () { s with heap := h', toks := s.toks + 2 }) :
    wpAny (model PG w) Ar (setAttr (.ref A.bx) (Str.ofString "zv") (.int x t)) Q E s :=
  buf_set { B with zv := x, tz := t } hs hp ht hh F X₀ hA N P off (by k_get) (by k_put) rfl h
end
theorem ni_of {A : BufA} {c : Addr} (h : A.ok) (hc : @LT.lt Nat _ A.M.m3 c) : NotIn A c := by
  intro x hx e
  subst e
  obtain ⟨i, hi, ei⟩ := List.mem_iff_getElem.mp hx
  have hp' := List.pairwise_iff_getElem.mp h
  have hi' : i < 17 := hi
  rcases Nat.lt_or_ge i 16 with q | q
  · have h1 := hp' i 16 hi (show 16 < 17 by decide) q
    rw [ei] at h1
    exact Nat.lt_irrefl _ (Nat.lt_trans hc h1)
  · have : i = 16 := by omega
    subst this
    rw [← ei] at hc
    exact Nat.lt_irrefl _ hc
theorem ni_buf {P : Params} {A : BufA} {B : BufS} {D : Addr} (h : NotIn A D) : ∀ p ∈ bufL P A B, p.1 ≠ D := h.off [1, 0, 8] rfl rfl
theorem ni_gap {P : Params} {A : BufA} {S : GapS} {D : Addr} (h : NotIn A D) : ∀ p ∈ gapL P A.G S, p.1 ≠ D := h.off [3, 2, 4] rfl rfl
theorem ni_mk {P : Params} {A : BufA} {K : MkS} {D : Addr} (h : NotIn A D) : ∀ p ∈ mkL P A.M K, p.1 ≠ D := h.off [6, 5, 7, 10, 9, 12, 11, 14, 13, 16, 15] rfl rfl
theorem ls_of {A : BufA} {c : Addr} (h : A.ok) (hc : @LT.lt Nat _ A.M.m3 c) : @LT.lt Nat _ A.ls c := Nat.lt_trans (h.lt 8 16 rfl rfl rfl) hc
theorem if_min (x y : Int) : (if y < x then y else x) = min x y := by
  rw [Int.min_def]; (repeat' split) <;> omega
theorem if_max (x y : Int) : (if y > x then y else x) = max x y := by
  rw [Int.max_def]; (repeat' split) <;> omega

/-! a loop over a range: the names of interest, a ledger whose addresses stay -/
def RgEnd {σ : Type} (h₀ : Heap) (L : Addr) (Led : σ → List (Addr × Obj)) (ps : σ → List (Str × Value)) (P : Nat → σ → Prop) (own : List (Addr × Obj)) (s : Shared) (i : Nat) (s₂ : Shared) : Prop :=
  ∃ c' h' tk m' news', s₂ = { s with heap := h', toks := tk } ∧ Fr h₀ L h' m' ∧ News h₀ L h' news' ∧ Sub (Led c' ++ own) news' ∧ (∀ p ∈ ps c', m' p.1 = some p.2) ∧ P (i + 1) c'
def RgPost {σ : Type} (h₀ : Heap) (L : Addr) (Led : σ → List (Addr × Obj)) (ps : σ → List (Str × Value)) (P : Nat → σ → Prop) (own : List (Addr × Obj)) (s : Shared) (i : Nat) (Q : Flow → Shared → Prop) (f : Flow) (s₂ : Shared) : Prop :=
  match f with
  | .ret v => Q (.ret v) s₂
  | .brk => Q .next s₂
  | _ => RgEnd h₀ L Led ps P own s i s₂
theorem rg_end {σ : Type} {h₀ : Heap} {L : Addr} {Led : σ → List (Addr × Obj)} {ps : σ → List (Str × Value)} {P : Nat → σ → Prop} {own news' : List (Addr × Obj)} {s : Shared} {i : Nat} {h' : Heap} {tk : Nat} {m' : Str → Option Value} (c' : σ)
    (F : Fr h₀ L h' m') (N : News h₀ L h' news') (hs : Sub (Led c' ++ own) news') (hk : ∀ p ∈ ps c', m' p.1 = some p.2) (hp : P (i + 1) c') : RgEnd h₀ L Led ps P own s i { s with heap := h', toks := tk } := ⟨c', h', tk, m', news', rfl, F, N, hs, hk, hp⟩
theorem kstB_self {m₁ : Str → Option Value} {ps : List (Str × Value)} (h : ∀ p ∈ ps, m₁ p.1 = some p.2) : kstB m₁ ps = m₁ := funext fun _ => kstB_eq h fun _ => rfl
section
variable {prog : Program} {w : World} {A : Around} {E : Value → Shared → Prop} {s : Shared} {env : Env} {h₀ : Heap} {x : Str} {body : List Stmt} {Q : Flow → Shared → Prop}
theorem range_K {σ : Type} {r : Addr} {a₀ b₀ : Int} {t₀ u₀ v₀ : Tok} {n : Nat} {m₀ : Str → Option Value} {news : List (Addr × Obj)} (Led : σ → List (Addr × Obj)) (ps : σ → List (Str × Value)) (P : Nat → σ → Prop) (c₀ : σ) (hadr : ∀ c c' : σ, (Led c).map (·.1) = (Led c').map (·.1))
    (hh : A.handled = none) (hr : IsRange s.heap r a₀ b₀ 1 t₀ u₀ v₀) (hsmall : Builtin.Range.small a₀ b₀ 1 = true) (hn : Builtin.Range.rangeSize a₀ b₀ 1 = (n : Int)) (F : Fr h₀ env.locals s.heap m₀) (N' : News h₀ env.locals s.heap news) (hs : Sub (Led c₀) news) (hk : ∀ p ∈ ps c₀, m₀ p.1 = some p.2) (hp : P 0 c₀)
    (turn : ∀ (c : σ) (i : Nat) t (u : Str → Option Value) h tk own, i < n → (∀ c', Off (Led c') own) → P i c → Fr h₀ env.locals h (fun y => if y = x then some (.int (a₀ + (i : Int)) t) else kstB u (ps c) y) → News h₀ env.locals h (Led c ++ own) →
      wpAny (model prog w) A (execs body env) (RgPost h₀ env.locals Led ps P own { s with heap := h, toks := tk } i Q) E { s with heap := h, toks := tk })
    (done : ∀ (c : σ) (u : Str → Option Value) h tk, P n c → Fr h₀ env.locals h (kstB u (ps c)) → News h₀ env.locals h (Led c) → Q .next { s with heap := h, toks := tk }) :
    wpAny (model prog w) A (pyIter (.ref r)) (fun it s₂ => LoopAtV prog w A h₀ env x body Q E it s₂) E s := by
  have N : News h₀ env.locals s.heap (Led c₀) := News.sub N' hs
  refine wpAny_pyIter_range hr hsmall ?_
  have W : Walks prog w A s.heap.objs.size [s.heap.objs.size] [s.heap.objs.size] n (fun i v => i < n ∧ ∃ t, v = .int (a₀ + i * 1) t)
      (fun i h => IsRangeIter h s.heap.objs.size (a₀ + (i : Nat) * 1) ((n : Int) - (i : Nat)) 1) := (Walks.range hh _ a₀ 1 n).bound
  refine loop_invN (fun i m nx => ∃ c, nx = Led c ∧ (∀ p ∈ ps c, m p.1 = some p.2) ∧ P i c) W ?_ ?_ ?_ ?_ (by show IsRangeIter _ _ _ _ _; rw [hn]; simpa using Heap.get?_push_size _ rfl) (F.push _) (fun p hp => ⟨Heap.get?_push_of_some _ (N p hp).1, (N p hp).2⟩) ⟨c₀, rfl, hk, hp⟩ ?_ ?_
  · exact fun hm => absurd F.ns.lt ((List.mem_singleton.mp hm) ▸ Nat.lt_irrefl _)
  · intro b hb
    rw [List.mem_singleton.mp hb]
    exact next_is_new F
  · exact fun p hp hI => absurd (Heap.lt_size (N p hp).1) ((List.mem_singleton.mp hI) ▸ Nat.lt_irrefl _)
  · exact fun p hp hI => absurd (Heap.lt_size (N p hp).1) ((List.mem_singleton.mp hI) ▸ Nat.lt_irrefl _)
  · rintro i v m₁ nx h tk own hi ⟨_, t, rfl⟩ _ hoff ⟨c, rfl, h1, hp'⟩ F₁ N₁
    rw [show a₀ + (i : Int) * 1 = a₀ + (i : Int) by omega] at F₁
    have ho : ∀ c', Off (Led c') own := fun c' p hp q hq e => hoff q hq p.1 (hadr c₀ c' ▸ List.mem_map_of_mem hp) e.symm
    have F₂ : Fr h₀ env.locals h (fun y => if y = x then some (.int (a₀ + (i : Int)) t) else kstB m₁ (ps c) y) := by rw [kstB_self h1]; exact F₁
    refine wpAny_mono (turn c i t m₁ h tk own hi ho hp' F₂ N₁) (fun f s₂ q => ?_) fun _ _ x => x
    have up : RgEnd h₀ env.locals Led ps P own { s with heap := h, toks := tk } i s₂ → InvEndN h₀ env.locals (fun m' nx => ∃ c, nx = Led c ∧ (∀ p ∈ ps c, m' p.1 = some p.2) ∧ P (i + 1) c) own ((Led c₀).map (·.1)) { s with heap := h, toks := tk } s₂ := by
      rintro ⟨c', h', tk', m', news', e, F9, N9, hs', hk', hp9⟩
      exact ⟨h', tk', m', news', Led c', e, F9, N9, fun p hp => hs' p (List.mem_append_left _ hp), fun p hp => hs' p (List.mem_append_right _ hp), hadr c' c₀, c', rfl, hk', hp9⟩
    cases f with
    | ret v => exact q
    | brk => exact q
    | next => exact up q
    | cont => exact up q
  · rintro m₁ nx h tk ⟨c, rfl, h1, hp'⟩ F₁ N₁
    exact done c m₁ h tk hp' (by rw [kstB_self h1]; exact F₁) N₁
end
def OffB (P : Params) (A : BufA) (own : List (Addr × Obj)) : Prop := ∀ B, Off (bufL P A B) own
def OffG (P : Params) (G : GapA) (own : List (Addr × Obj)) : Prop := ∀ S, Off (gapL P G S) own
def OffM (P : Params) (M : MkA) (own : List (Addr × Obj)) : Prop := ∀ K, Off (mkL P M K) own
theorem sys_of {A : BufA} {D : Addr} (h : A.ok) (hD : @LT.lt Nat _ A.M.m3 D) : (D == sysModules) = false := by
  have h1 : @LT.lt Nat _ A.M.d3 A.M.m3 := h.lt 15 16 rfl rfl rfl
  have h2 : @Ne Nat D 1 := by omega
  exact beq_false_of_ne h2
theorem sys_rows {A : BufA} (h : A.ok) : (A.M.rows == sysModules) = false := by
  have h1 : @LT.lt Nat _ A.M.kd A.M.kk := h.lt 5 6 rfl rfl rfl
  have h2 : @LT.lt Nat _ A.M.kk A.M.rows := h.lt 6 7 rfl rfl rfl
  have h3 : @Ne Nat A.M.rows 1 := by omega
  exact beq_false_of_ne h3
theorem allLt_app {d : Nat} : ∀ {a b : List (Addr × Obj)}, AllLt d (a ++ b) = (AllLt d a ∧ AllLt d b)
  | [], b => by simp [AllLt]
  | p :: a, b => by
    show (_ ∧ AllLt d (a ++ b)) = _
    rw [allLt_app (a := a)]
    simp only [AllLt, and_assoc]
section
variable {P : Params} {A : BufA} {B : BufS} {S : GapS} {K : MkS} {D : Addr} {l : List (Addr × Obj)}
theorem dk_idx (h : A.ok) (hD : @LT.lt Nat _ D A.dx) (I : List Nat) (d : (I.all fun i => Nat.blt i 17) = true) (ha : l.map (fun p => (p.1 : Nat)) = I.map (fun i => A.addrs.getD i 0)) : ∀ p ∈ l, p.1 ≠ D := by
  intro p hp
  have h1 : (p.1 : Nat) ∈ I.map (fun i => A.addrs.getD i 0) := ha ▸ List.mem_map_of_mem hp
  obtain ⟨i, hi, ei⟩ := List.mem_map.mp h1
  have hil : i < 17 := Nat.le_of_ble_eq_true (List.all_eq_true.mp d i hi)
  refine Nat.ne_of_gt (Nat.lt_of_lt_of_le hD ?_)
  have hp' := List.pairwise_iff_getElem.mp h
  have e : A.addrs.getD i 0 = A.addrs[i]'hil := by simp [List.getD_eq_getElem?_getD, List.getElem?_eq_getElem (show i < A.addrs.length from hil)]; rfl
  rw [← ei, e]
  rcases Nat.eq_zero_or_pos i with q | q
  · subst q
    exact Nat.le_refl _
  · exact Nat.le_of_lt (hp' 0 i (show 0 < 17 by decide) hil q)
theorem dk_buf (h : A.ok) (hD : @LT.lt Nat _ D A.dx) : ∀ p ∈ bufL P A B, p.1 ≠ D := dk_idx h hD [1, 0, 8] rfl rfl
theorem dk_gap (h : A.ok) (hD : @LT.lt Nat _ D A.dx) : ∀ p ∈ gapL P A.G S, p.1 ≠ D := dk_idx h hD [3, 2, 4] rfl rfl
theorem dk_mk (h : A.ok) (hD : @LT.lt Nat _ D A.dx) : ∀ p ∈ mkL P A.M K, p.1 ≠ D := dk_idx h hD [6, 5, 7, 10, 9, 12, 11, 14, 13, 16, 15] rfl rfl
end
theorem off_adr {a a' r : List (Addr × Obj)} (e : a.map (·.1) = a'.map (·.1)) (h : Off a r) : Off a' r := fun p hp q hq x => by
  have h1 : p.1 ∈ a.map (·.1) := e ▸ List.mem_map_of_mem hp
  obtain ⟨p', h2, h3⟩ := List.mem_map.mp h1
  exact h p' h2 q hq (h3.trans x)
def OffD (d : Addr) (own : List (Addr × Obj)) : Prop := ∀ o, Off [(d, o)] own
theorem offB_of {P : Params} {A : BufA} {B : BufS} {r : List (Addr × Obj)} (h : Off (bufL P A B) r) : OffB P A r := fun B' => off_adr (a := bufL P A B) (a' := bufL P A B') rfl h
theorem offG_of {P : Params} {G : GapA} {S : GapS} {r : List (Addr × Obj)} (h : Off (gapL P G S) r) : OffG P G r := fun S' => off_adr (a := gapL P G S) (a' := gapL P G S') rfl h
theorem offM_of {P : Params} {M : MkA} {K : MkS} {r : List (Addr × Obj)} (h : Off (mkL P M K) r) : OffM P M r := fun K' => off_adr (a := mkL P M K) (a' := mkL P M K') rfl h
theorem offD_of {d : Addr} {o : Obj} {r : List (Addr × Obj)} (h : Off [(d, o)] r) : OffD d r := fun o' => off_adr (a := [(d, o)]) (a' := [(d, o')]) rfl h
theorem lst_is (ys : List Value) : LCg.lst ys = listOf ys.toArray ys.length := rfl
theorem off1_all {D : Addr} : ∀ {l : List (Addr × Obj)}, LCg.Off1 D l → ∀ p ∈ l, p.1 ≠ D
  | [], _, _, h => nomatch h
  | q :: l, x, p, h => by
    rcases List.mem_cons.mp h with rfl | h
    · exact x.1
    · exact off1_all x.2 p h
theorem ne_of_sub {D : Addr} {a l : List (Addr × Obj)} (h : ∀ p ∈ l, p.1 ≠ D) (s : Sub a l) {x : Addr} {o : Obj} (m : List.Mem (x, o) a) : @Ne Nat D x := fun e => h _ (s _ m) e.symm
theorem ni_off {P : Params} {A : BufA} {B : BufS} {S : GapS} {K : MkS} {D : Addr} {l : List (Addr × Obj)} (h : ∀ p ∈ l, p.1 ≠ D) (s1 : Sub (bufL P A B) l) (s2 : Sub (gapL P A.G S) l) (s3 : Sub (mkL P A.M K) l) : NotIn A D := by
  have k1 := fun {x o} => ne_of_sub (x := x) (o := o) h s1
  have k2 := fun {x o} => ne_of_sub (x := x) (o := o) h s2
  have k3 := fun {x o} => ne_of_sub (x := x) (o := o) h s3
  exact List.forall_mem_cons.mpr ⟨k1 (.tail _ (.head _)), List.forall_mem_cons.mpr ⟨k1 (.head _), List.forall_mem_cons.mpr ⟨k2 (.tail _ (.head _)), List.forall_mem_cons.mpr ⟨k2 (.head _), List.forall_mem_cons.mpr ⟨k2 (.tail _ (.tail _ (.head _))), List.forall_mem_cons.mpr ⟨k3 (.tail _ (.head _)), List.forall_mem_cons.mpr ⟨k3 (.head _), List.forall_mem_cons.mpr ⟨k3 (.tail _ (.tail _ (.head _))), List.forall_mem_cons.mpr ⟨k1 (.tail _ (.tail _ (.head _))), List.forall_mem_cons.mpr ⟨k3 (.tail _ (.tail _ (.tail _ (.tail _ (.head _))))), List.forall_mem_cons.mpr ⟨k3 (.tail _ (.tail _ (.tail _ (.head _)))), List.forall_mem_cons.mpr ⟨k3 (.tail _ (.tail _ (.tail _ (.tail _ (.tail _ (.tail _ (.head _))))))), List.forall_mem_cons.mpr ⟨k3 (.tail _ (.tail _ (.tail _ (.tail _ (.tail _ (.head _)))))), List.forall_mem_cons.mpr ⟨k3 (.tail _ (.tail _ (.tail _ (.tail _ (.tail _ (.tail _ (.tail _ (.tail _ (.head _))))))))), List.forall_mem_cons.mpr ⟨k3 (.tail _ (.tail _ (.tail _ (.tail _ (.tail _ (.tail _ (.tail _ (.head _)))))))), List.forall_mem_cons.mpr ⟨k3 (.tail _ (.tail _ (.tail _ (.tail _ (.tail _ (.tail _ (.tail _ (.tail _ (.tail _ (.tail _ (.head _))))))))))), List.forall_mem_cons.mpr ⟨k3 (.tail _ (.tail _ (.tail _ (.tail _ (.tail _ (.tail _ (.tail _ (.tail _ (.tail _ (.head _)))))))))), List.forall_mem_nil _⟩⟩⟩⟩⟩⟩⟩⟩⟩⟩⟩⟩⟩⟩⟩⟩⟩
theorem offD_new {P : Params} {A : BufA} {D : Addr} {rest l : List (Addr × Obj)} (_ : OffB P A rest) (h : ∀ p ∈ l, p.1 ≠ D) (s : Sub rest l) : OffD D rest := fun _ => off_cons (fun q hq => h q (s q hq)) (off_none _)
theorem off1_app {D : Addr} : ∀ {a b : List (Addr × Obj)}, LCg.Off1 D (a ++ b) = (LCg.Off1 D a ∧ LCg.Off1 D b)
  | [], b => by simp [LCg.Off1]
  | p :: a, b => by
    show (_ ∧ LCg.Off1 D (a ++ b)) = _
    rw [off1_app (a := a)]
    simp only [LCg.Off1, and_assoc]

theorem offB_at {P : Params} {A : BufA} {B : BufS} {own : List (Addr × Obj)} (h : OffB P A own) : Off (bufL P A B) own := h B
theorem offG_at {P : Params} {G : GapA} {S : GapS} {own : List (Addr × Obj)} (h : OffG P G own) : Off (gapL P G S) own := h S
theorem offM_at {P : Params} {M : MkA} {K : MkS} {own : List (Addr × Obj)} (h : OffM P M own) : Off (mkL P M K) own := h K
theorem offD_at {d : Addr} {o : Obj} {own : List (Addr × Obj)} (h : OffD d own) : Off [(d, o)] own := h o

def Off1N (D : Addr) : List (Addr × Obj) → Prop
  | [] => True
  | p :: l => @Ne Nat p.1 D ∧ Off1N D l
theorem off1N_of {D : Addr} : ∀ {l : List (Addr × Obj)}, LCg.Off1 D l → Off1N D l
  | [], _ => trivial
  | _ :: _, h => ⟨h.1, off1N_of h.2⟩
theorem off1N_app {D : Addr} : ∀ {a b : List (Addr × Obj)}, Off1N D (a ++ b) = (Off1N D a ∧ Off1N D b)
  | [], b => by simp [Off1N]
  | p :: a, b => by
    show (_ ∧ Off1N D (a ++ b)) = _
    rw [off1N_app (a := a)]
    simp only [Off1N, and_assoc]

end Mine

end Lay6

section Lay7
open PySem PySem.Spec PySem.Calls PySem.W PyProof.Rows

theorem Mine.lay7 : True := by
  w_top off
  k_with "~L7:ktr_room" => k_extra "~w0"
  k_with "~L7:k_ne" => k_extra "~w1"
  k_with "~L7:ktr_room" => k_extra "~w2"
  k_with "~L7:ktr_units" => k_extra "~w2"
  k_with "~L7:ktr_room" => k_extra "~w3"
  k_with "~L7:ktr_units" => k_extra "~w4"
  k_with "~L7:is_list" => k_extra "~w5"
  k_with "~L7:k_enter" => k_extra "~w20"
  k_with "~L7:k_subL" => k_extra "~w7"
  k_with "~L7:setItem ref ref" => k_extra "~w8"
  k_with "~L7:k_clsL" => k_extra "~w9"
  k_with "~L7:k_offL" => k_extra "~w21"
  k_with "~L7:k_clsL" => k_extra "~w22"
  k_with "~L7:k_subL" => k_extra "~w23"
  k_with "~L7:call ref" => k_extra "~w24"
  k_with "~L7:call ref" => k_extra "~w25"
  k_with "~L7:call ref" => k_extra "~w26"
  k_with "~L7:call ref" => k_extra "~w27"
  k_with "~L7:call builtin:sorted" => k_extra "~w28"
  k_with "~L7:call ref" => k_extra "~w29"
  k_with "~L7:call ref" => k_extra "~w30"
  k_with "~L7:call ref" => k_extra "~w31"
  k_with "~L7:call ref" => k_extra "~w32"
  k_with "~L7:call ref" => k_extra "~w33"
  k_with "~L7:call ref" => k_extra "~w34"
  k_with "~L7:call ref" => k_extra "~w35"
  k_with "~L7:call ref" => k_extra "~w36"
  k_with "~L7:call ref" => k_extra "~w37"
  k_with "~L7:call ref" => k_extra "~w38"
  k_with "~L7:call ref" => k_extra "~w39"
  k_with "~L7:call ref" => k_extra "~w40"
  k_with "~L7:call ref" => k_extra "~w41"
  k_with "~L7:call ref" => k_extra "~w42"
  k_with "~L7:call ref" => k_extra "~w43"
  k_with "~L7:call ref" => k_extra "~w44"
  k_with "~L7:call ref" => k_extra "~w45"
  k_with "~L7:call ref" => k_extra "~w46"
  k_with "~L7:call ref" => k_extra "~w47"
  k_with "~L7:call ref" => k_extra "~w48"
  k_with "~L7:call ref" => k_extra "~w49"
  k_with "~L7:call ref" => k_extra "~w50"
  k_with "~L7:call ref" => k_extra "~w51"
  trivial

namespace Mine

/-- what an edit of the stretch l..h that makes the text d longer does to places: f to a marker's (with its sort), g to point's -/
structure Mv (l h d : Int) (f : Int → Bool → Int) (g : Int → Int) : Prop where
  lo : ∀ p a, p < l → f p a = p
  hi : ∀ p a, h < p → f p a = p + d
  mo : ∀ p q a b, p < q → f p a ≤ f q b
  so : ∀ p a b, (a = true → b = true) → f p a ≤ f p b
  mi : ∀ p a, l ≤ p → p ≤ h → l ≤ f p a ∧ f p a ≤ h + d
  glo : ∀ p, p < l → g p = p
  ghi : ∀ p, h < p → g p = p + d
  gmi : ∀ p, l ≤ p → p ≤ h → l ≤ g p ∧ g p ≤ h + d
  gf : ∀ p a, g p ≤ f p a
  fg : ∀ p q a, p < q → f p a ≤ g q
  gm : ∀ p q a, p < q → g p ≤ f q a

/-- one place's way: what stands ahead of l stays, what stands behind h goes d on, the rest stays between -/
structure Sh (l h d : Int) (u : Int → Int) : Prop where
  lo : ∀ p, p < l → u p = p
  hi : ∀ p, h < p → u p = p + d
  mi : ∀ p, l ≤ p → p ≤ h → l ≤ u p ∧ u p ≤ h + d
theorem Sh.mo {l h d : Int} {u v : Int → Int} (U : Sh l h d u) (V : Sh l h d v) (hd : l ≤ h + d) (m : ∀ p q, l ≤ p → p < q → q ≤ h → u p ≤ v q) {p q : Int} (e : p < q) : u p ≤ v q := by
  rcases Int.lt_or_le h q with b | b
  · rw [V.hi q b]
    have b := Int.add_le_add_right (Int.le_of_lt b) d
    rcases Int.lt_or_le p l with a | a
    · rw [U.lo p a]; exact Int.le_trans (Int.le_of_lt a) (Int.le_trans hd b)
    · rcases Int.lt_or_le h p with c | c
      · rw [U.hi p c]; exact Int.add_le_add_right (Int.le_of_lt e) d
      · exact Int.le_trans (U.mi p a c).2 b
  · rcases Int.lt_or_le p l with a | a
    · rw [U.lo p a]
      rcases Int.lt_or_le q l with c | c
      · rw [V.lo q c]; exact Int.le_of_lt e
      · exact Int.le_trans (Int.le_of_lt a) (V.mi q c b).1
    · exact m p q a e b
theorem Mv.of1 {l h d : Int} {u : Int → Int} (U : Sh l h d u) (hd : l ≤ h + d) (m : ∀ p q, l ≤ p → p < q → q ≤ h → u p ≤ u q) : Mv l h d (fun p _ => u p) u :=
  ⟨fun p _ => U.lo p, fun p _ => U.hi p, fun _ _ _ _ => U.mo U hd m, fun _ _ _ _ => Int.le_refl _, fun p _ => U.mi p, U.lo, U.hi, U.mi, fun _ _ => Int.le_refl _, fun _ _ _ => U.mo U hd m, fun _ _ _ => U.mo U hd m⟩
theorem addc (p l k : Int) : p + (l + k) - l = p + k := by omega
theorem sh_ins {l k : Int} (hk : 0 ≤ k) (b a : Bool) : Sh l l k (fun p => insF l (l + k) b p a) where
  lo p e := if_neg fun q => q.elim (Int.lt_asymm e) fun q => absurd q.1 (Int.ne_of_lt e)
  hi p e := (if_pos (.inl e)).trans (addc ..)
  mi p e e' := by
    obtain rfl := Int.le_antisymm e e'
    unfold insF
    split
    · rw [addc]; exact ⟨Int.le_add_of_nonneg_right hk, Int.le_refl _⟩
    · exact ⟨Int.le_refl _, Int.le_add_of_nonneg_right hk⟩
theorem sh_pin {l k : Int} (hk : 0 ≤ k) : Sh l l k (pIn l k) where
  lo p e := if_neg (Int.lt_asymm e)
  hi p e := if_pos e
  mi p e e' := by
    obtain rfl := Int.le_antisymm e e'
    unfold pIn
    rw [if_neg (Int.lt_irrefl _)]
    exact ⟨Int.le_refl _, Int.le_add_of_nonneg_right hk⟩
theorem not_in {l p q : Int} (e : l ≤ p) (e1 : p < q) (e2 : q ≤ l) {P : Prop} : P := absurd (Int.lt_of_lt_of_le (Int.lt_of_le_of_lt e e1) e2) (Int.lt_irrefl _)
theorem mv_ins {l k : Int} (hk : 0 ≤ k) (bm : Bool) : Mv l l k (insF l (l + k) bm) (pIn l k) := by
  have I := fun a => sh_ins (l := l) hk bm a
  have P := sh_pin (l := l) hk
  have hd := Int.le_add_of_nonneg_right (a := l) hk
  refine ⟨fun p a => (I a).lo p, fun p a => (I a).hi p, fun p q a b => (I a).mo (I b) hd fun _ _ a b c => not_in a b c, fun p a b hab => ?_, fun p a => (I a).mi p, P.lo, P.hi, P.mi, fun p a => ?_, fun p q a => (I a).mo P hd fun _ _ a b c => not_in a b c, fun p q a => P.mo (I a) hd fun _ _ a b c => not_in a b c⟩
  · unfold insF
    by_cases h : l < p ∨ (p = l ∧ (bm = true ∨ a = true))
    · rw [if_pos h, if_pos (h.imp_right fun x => ⟨x.1, x.2.imp_right hab⟩)]
      exact Int.le_refl _
    · rw [if_neg h]
      split
      · rw [addc]; exact Int.le_add_of_nonneg_right hk
      · exact Int.le_refl _
  · unfold insF pIn
    by_cases h : l < p
    · rw [if_pos h, if_pos (.inl h), addc]; exact Int.le_refl _
    · rw [if_neg h]
      split
      · rw [addc]; exact Int.le_add_of_nonneg_right hk
      · exact Int.le_refl _
def repP (l h k p : Int) : Int := if h ≤ p then p + k - (h - l) else pIn l k (pOut l h p)
theorem max_l {l h p : Int} (e : p ≤ h) : max l (p - (h - l)) = l := Int.max_eq_left (by omega)
theorem max_r {l h p : Int} (e : h ≤ p) : max l (p - (h - l)) = p - (h - l) := Int.max_eq_right (by omega)
theorem pout_is {l h : Int} (hk : l ≤ h) (p : Int) : pOut l h p = delF l h p true := by
  unfold pOut delF
  rcases Int.lt_or_le h p with a | a
  · rw [if_pos a, if_pos (Int.lt_of_le_of_lt hk a), max_r (Int.le_of_lt a)]
  · rw [if_neg (Int.not_lt.mpr a), max_l a]
theorem mv_del {l h : Int} (hk : l ≤ h) : Mv l h (-(h - l)) (delF l h) (pOut l h) := by
  have hd : h + -(h - l) = l := by omega
  have e : ∀ p, l ≤ p → p ≤ h → delF l h p true = l := fun p a b => by
    unfold delF
    rw [if_neg (Int.not_lt.mpr b)]
    split
    · rfl
    · exact Int.le_antisymm (Int.not_lt.mp ‹_›) a
  have U : Sh l h (-(h - l)) (fun p => delF l h p true) := by
    refine ⟨fun p a => ?_, fun p a => (if_pos a).trans Int.sub_eq_add_neg, fun p a b => by rw [e p a b, hd]; exact ⟨Int.le_refl _, Int.le_refl _⟩⟩
    show delF l h p true = p
    unfold delF
    rw [if_neg (Int.not_lt.mpr (Int.le_trans (Int.le_of_lt a) hk)), if_neg (Int.lt_asymm a)]
  rw [show pOut l h = fun p => delF l h p true from funext (pout_is hk)]
  exact Mv.of1 (u := fun p => delF l h p true) U (Int.le_of_eq hd.symm) fun p q a b c => by show delF l h p true ≤ delF l h q true; rw [e p a (Int.le_trans (Int.le_of_lt b) c), e q (Int.le_trans a (Int.le_of_lt b)) c]; exact Int.le_refl _
theorem repp_is {l h k : Int} (hk : l < h) (p : Int) : repP l h k p = repF l h k p true := by
  unfold repP repF
  split
  · rfl
  · rename_i a
    have a := Int.not_le.mp a
    unfold pOut
    rw [max_l (Int.le_of_lt a)]
    unfold pIn
    rw [if_neg]
    split
    · exact Int.lt_irrefl _
    · assumption
theorem mv_rep {l h k : Int} (hk : l < h) (h0 : 0 ≤ k) : Mv l h (k - (h - l)) (repF l h k) (repP l h k) := by
  have hd : h + (k - (h - l)) = l + k := by omega
  have hh : h + k - (h - l) = l + k := by omega
  have e : ∀ p, l ≤ p → p < h → repF l h k p true = l := fun p a b => by
    unfold repF
    rw [if_neg (Int.not_le.mpr b)]
    split
    · rfl
    · exact Int.le_antisymm (Int.not_lt.mp ‹_›) a
  have e' : repF l h k h true = l + k := (if_pos (Int.le_refl h)).trans hh
  have lk := Int.le_add_of_nonneg_right (a := l) h0
  have mi : ∀ p, l ≤ p → p ≤ h → l ≤ repF l h k p true ∧ repF l h k p true ≤ l + k := fun p a b => by
    rcases Int.lt_or_eq_of_le b with c | rfl
    · rw [e p a c]; exact ⟨Int.le_refl _, lk⟩
    · rw [e']; exact ⟨lk, Int.le_refl _⟩
  have U : Sh l h (k - (h - l)) (fun p => repF l h k p true) := by
    refine ⟨fun p a => ?_, fun p a => (if_pos (Int.le_of_lt a)).trans (Int.add_sub_assoc ..), fun p a b => by rw [hd]; exact mi p a b⟩
    show repF l h k p true = p
    unfold repF
    rw [if_neg (Int.not_le.mpr (Int.lt_trans a hk)), if_neg (Int.lt_asymm a)]
  rw [show repP l h k = fun p => repF l h k p true from funext (repp_is hk)]
  exact Mv.of1 (u := fun p => repF l h k p true) U (by rw [hd]; exact lk) fun p q a b c => by show repF l h k p true ≤ repF l h k q true; rw [e p a (Int.lt_of_lt_of_le b c)]; exact (mi q (Int.le_trans a (Int.le_of_lt b)) c).1
theorem mv_id (l h : Int) : Mv l h 0 (fun p _ => p) (fun p => p) := by
  have m : ∀ p, l ≤ p → p ≤ h → l ≤ p ∧ p ≤ h + 0 := fun p a b => ⟨a, by rw [Int.add_zero]; exact b⟩
  exact ⟨fun _ _ _ => rfl, fun p _ _ => (Int.add_zero p).symm, fun _ _ _ _ => Int.le_of_lt, fun _ _ _ _ => Int.le_refl _, fun p _ => m p, fun _ _ => rfl, fun p _ => (Int.add_zero p).symm, m, fun _ _ => Int.le_refl _, fun _ _ _ => Int.le_of_lt, fun _ _ _ => Int.le_of_lt⟩

end Mine

end Lay7

section Lay8
open PySem PySem.Spec PySem.Calls PySem.W PyProof.Rows

theorem Mine.lay8 : True := by
  w_top off
  k_with "~L8:ktr_room" => k_extra "~w0"
  k_with "~L8:k_ne" => k_extra "~w1"
  k_with "~L8:ktr_room" => k_extra "~w2"
  k_with "~L8:ktr_units" => k_extra "~w2"
  k_with "~L8:ktr_room" => k_extra "~w3"
  k_with "~L8:ktr_units" => k_extra "~w4"
  k_with "~L8:is_list" => k_extra "~w5"
  k_with "~L8:k_enter" => k_extra "~w20"
  k_with "~L8:k_subL" => k_extra "~w7"
  k_with "~L8:setItem ref ref" => k_extra "~w8"
  k_with "~L8:k_clsL" => k_extra "~w9"
  k_with "~L8:k_offL" => k_extra "~w21"
  k_with "~L8:k_clsL" => k_extra "~w22"
  k_with "~L8:k_subL" => k_extra "~w23"
  k_with "~L8:call ref" => k_extra "~w24"
  k_with "~L8:call ref" => k_extra "~w25"
  k_with "~L8:call ref" => k_extra "~w26"
  k_with "~L8:call ref" => k_extra "~w27"
  k_with "~L8:call builtin:sorted" => k_extra "~w28"
  k_with "~L8:call ref" => k_extra "~w29"
  k_with "~L8:call ref" => k_extra "~w30"
  k_with "~L8:call ref" => k_extra "~w31"
  k_with "~L8:call ref" => k_extra "~w32"
  k_with "~L8:call ref" => k_extra "~w33"
  k_with "~L8:call ref" => k_extra "~w34"
  k_with "~L8:call ref" => k_extra "~w35"
  trivial

namespace Mine

theorem bf_writable (w : World) (A : BufA) (B : BufS) :
    Cal w 48 [.ref A.bx] 1 20 (bufL w.params A B) (X := Unit) (fun _ => .none) (fun _ => bufL w.params A B) (fun _ _ => True) := by
  have hfill : hd.heap_1 = hd.heap_1 ∧ PySem.Challenge.rw_pq0288_01 = PySem.Challenge.rw_pq0288_01 := by k_fill; exact ⟨rfl, rfl⟩
  clear hfill
  intro mean mg mb dp un gdd cn csc a ccd cll outer A₀ base h₀ L m s rest Q E B' F KX N off T hk hdp hun hret
  refine wpAny_call ?_
  k_dflt k_enter
  k_steps
  rename Fr _ _ _ _ => fE
  rename News _ _ _ _ => nE
  exact Cal.done rest hret () fE nE (Sub.refl _) trivial

end Mine

namespace Mine

theorem bf_hungout (w : World) (A : BufA) (hA : A.ok) (B : BufS) (x y : Int) (tx ty : Tok) :
    Cal w 97 [.ref A.bx, .int x tx, .int y ty] 4 60 (bufL w.params A B) (X := Unit) (fun _ => .none) (fun _ => bufL w.params A B) (fun _ _ => True) := by
  have hfill : hd.heap_1 = hd.heap_1 ∧ PySem.Challenge.rw_pq0288_01 = PySem.Challenge.rw_pq0288_01 := by k_fill; exact ⟨rfl, rfl⟩
  clear hfill
  have hA' := hA.low
  obtain ⟨b1, b2, b3, b4, b5, b6, b7, b8⟩ := hA'
  intro mean mg mb dp un gdd cn csc a ccd cll outer A₀ base h₀ L m s rest Q E B' F KX N off T hk hdp hun hret
  refine wpAny_call ?_
  k_dflt k_enter
  k_steps
  rename Fr _ _ _ _ => fE
  rename News _ _ _ _ => nE
  exact Cal.done rest hret () fE nE (Sub.refl _) trivial

theorem bf_hungin (w : World) (A : BufA) (hA : A.ok) (B : BufS) (x y : Int) (tx ty : Tok) (v : Value) :
    Cal w 104 [.ref A.bx, .int x tx, .int y ty, v] 4 60 (bufL w.params A B) (X := Unit) (fun _ => .none) (fun _ => bufL w.params A B) (fun _ _ => True) := by
  have hfill : hd.heap_1 = hd.heap_1 ∧ PySem.Challenge.rw_pq0288_01 = PySem.Challenge.rw_pq0288_01 := by k_fill; exact ⟨rfl, rfl⟩
  clear hfill
  have hA' := hA.low
  obtain ⟨b1, b2, b3, b4, b5, b6, b7, b8⟩ := hA'
  intro mean mg mb dp un gdd cn csc a ccd cll outer A₀ base h₀ L m s rest Q E B' F KX N off T hk hdp hun hret
  refine wpAny_call ?_
  k_dflt k_enter
  k_steps
  rename Fr _ _ _ _ => fE
  rename News _ _ _ _ => nE
  exact Cal.done rest hret () fE nE (Sub.refl _) trivial

theorem bf_ahead (w : World) (A : BufA) (hA : A.ok) (B : BufS) (x y : Int) (tx ty : Tok) :
    Cal w 69 [.ref A.bx, .int x tx, .int y ty] 4 60 (bufL w.params A B) (X := Unit) (fun _ => .none) (fun _ => bufL w.params A B) (fun _ _ => True) := by
  have hfill : hd.heap_1 = hd.heap_1 ∧ PySem.Challenge.rw_pq0288_01 = PySem.Challenge.rw_pq0288_01 := by k_fill; exact ⟨rfl, rfl⟩
  clear hfill
  have hA' := hA.low
  obtain ⟨b1, b2, b3, b4, b5, b6, b7, b8⟩ := hA'
  intro mean mg mb dp un gdd cn csc a ccd cll outer A₀ base h₀ L m s rest Q E B' F KX N off T hk hdp hun hret
  refine wpAny_call ?_
  k_dflt k_enter
  k_steps
  rename Fr _ _ _ _ => fE
  rename News _ _ _ _ => nE
  exact Cal.done rest hret () fE nE (Sub.skip (Sub.refl _)) trivial

end Mine

namespace Mine

theorem bf_touch (w : World) (A : BufA) (hA : A.ok) (B : BufS) :
    Cal w 503 [.ref A.bx, .bool true] 1 30 (bufL w.params A B) (X := BufS) (fun _ => .none) (fun r => bufL w.params A r) (fun _ r => B.same r) := by
  have hfill : hd.heap_1 = hd.heap_1 ∧ PySem.Challenge.rw_pq0288_01 = PySem.Challenge.rw_pq0288_01 := by k_fill; exact ⟨rfl, rfl⟩
  clear hfill
  have hA' := hA.low
  obtain ⟨b1, b2, b3, b4, b5, b6, b7, b8⟩ := hA'
  have b9 : @LT.lt Nat _ A.dx A.ls := hA.lt 0 8 rfl rfl rfl
  intro mean mg mb dp un gdd cn csc a ccd cll outer A₀ base h₀ L m s rest Q E B' F KX N off T hk hdp hun hret
  refine wpAny_call ?_
  k_dflt k_enter
  k_steps
  rename Fr _ _ _ _ => fE
  rename News _ _ _ _ => nE
  exact Cal.done rest hret ⟨⟨_, _, _, _, _, _, _, _, _, _, _, _, _, _, _, _, _, _, _, _, _, _, _, _⟩, _, _, _, _, _, _, _, _, _, _⟩ fE nE (sub_bufX (t := []) (Sub.refl _)) ⟨rfl, rfl, rfl⟩

end Mine

namespace Mine

theorem bf_size (w : World) (A : BufA) (hA : A.ok) (B : BufS) (S : GapS) (t : List Int) (n : Nat) (GT : GapT S t n) :
    Cal w 454 [.ref A.bx] 4 60 (bufL w.params A B ++ gapL w.params A.G S) (X := Tok) (fun k => .int (t.length : Int) k) (fun _ => bufL w.params A B ++ gapL w.params A.G S) (fun _ _ => True) := by
  have hfill : hd.heap_1 = hd.heap_1 ∧ PySem.Challenge.rw_pq0288_01 = PySem.Challenge.rw_pq0288_01 := by k_fill; exact ⟨rfl, rfl⟩
  clear hfill
  have hA' := hA.low
  obtain ⟨b1, b2, b3, b4, b5, b6, b7, b8⟩ := hA'
  intro mean mg mb dp un gdd cn csc a ccd cll outer A₀ base h₀ L m s rest Q E B' F KX N off T hk hdp hun hret
  refine wpAny_call ?_
  k_dflt k_enter
  k_steps
  rename Fr _ _ _ _ => fE
  rename News _ _ _ _ => nE
  exact Cal.done rest hret _ fE nE (by k_subL) trivial

end Mine

namespace Mine

theorem bf_codes (w : World) (A : BufA) (hA : A.ok) (B : BufS) (S : GapS) (t : List Int) (n : Nat) (GT : GapT S t n) (x y : Int) (tx ty : Tok) (h0 : 1 ≤ x) (h1 : x ≤ y) (h2 : y ≤ t.length + 1) :
    Cal w 468 [.ref A.bx, .int x tx, .int y ty] 4 60 (bufL w.params A B ++ gapL w.params A.G S) (X := Addr × List Value × Nat) (fun r => .ref r.1) (fun r => (r.1, listOf r.2.1.toArray r.2.2) :: (bufL w.params A B ++ gapL w.params A.G S)) (fun rest r => IntsAre r.2.1 ((t.drop (x - 1).toNat).take (y - x).toNat) ∧ ∀ p ∈ (bufL w.params A B ++ gapL w.params A.G S) ++ rest, p.1 < r.1) := by
  have hfill : hd.heap_1 = hd.heap_1 ∧ PySem.Challenge.rw_pq0288_01 = PySem.Challenge.rw_pq0288_01 := by k_fill; exact ⟨rfl, rfl⟩
  clear hfill
  have hA' := hA.low
  obtain ⟨b1, b2, b3, b4, b5, b6, b7, b8⟩ := hA'
  intro mean mg mb dp un gdd cn csc a ccd cll outer A₀ base h₀ L m s rest Q E B' F KX N off T hk hdp hun hret
  refine wpAny_call ?_
  dsimp only [bufL, gapL, rowsL, mksL, mkL, List.cons_append, List.nil_append, List.append_nil] at N
  k_dflt cell_enter
  k_steps
  rename Fr h₀ L _ m => fE
  rename News h₀ L _ _ => nE
  rename IntsAre _ _ => iE
  rename _ ∧ _ ∧ _ ∧ _ ∧ _ ∧ _ ∧ AllLt _ _ => lE
  rw [show y - 1 - (x - 1) = y - x by omega] at iE
  refine hret (_, _, _) _ _ ⟨iE, fun p hp => ?_⟩ fE (News.sub nE (Sub.same (sub_app (sub_app (Sub.skip (Sub.skip (Sub.skip (sub_pre _ _)))) (sub_pre _ _)) (Sub.skip (Sub.skip (Sub.skip (Sub.skip (Sub.skip (Sub.skip (Sub.refl _)))))))))) 
  obtain ⟨l1, l2, l3, l4, l5, l6, l7⟩ := lE
  have h := allLt_at (l := (bufL w.params A B ++ gapL w.params A.G S) ++ rest) ⟨l4, l5, l6, l1, l2, l3, l7⟩
  exact h p hp

end Mine

namespace Mine

theorem bf_codeat (w : World) (A : BufA) (hA : A.ok) (B : BufS) (S : GapS) (t : List Int) (n : Nat) (GT : GapT S t n) (x : Int) (tx : Tok) (h0 : 1 ≤ B.begv) (h1 : B.begv ≤ x) (h2 : x < B.zv) (h3 : B.zv ≤ t.length + 1) :
    Cal w 461 [.ref A.bx, .int x tx] 4 60 (bufL w.params A B ++ gapL w.params A.G S) (X := Tok) (fun k => .int (t.getD (x - 1).toNat 0) k) (fun _ => bufL w.params A B ++ gapL w.params A.G S) (fun _ _ => True) := by
  have hfill : hd.heap_1 = hd.heap_1 ∧ PySem.Challenge.rw_pq0288_01 = PySem.Challenge.rw_pq0288_01 := by k_fill; exact ⟨rfl, rfl⟩
  clear hfill
  have hA' := hA.low
  obtain ⟨b1, b2, b3, b4, b5, b6, b7, b8⟩ := hA'
  intro mean mg mb dp un gdd cn csc a ccd cll outer A₀ base h₀ L m s rest Q E B' F KX N off T hk hdp hun hret
  refine wpAny_call ?_
  k_dflt k_enter
  k_steps
  rename Fr _ _ _ _ => fE
  rename News _ _ _ _ => nE
  exact Cal.done rest hret _ fE nE (by k_subL) trivial

end Mine

namespace Mine

theorem gt_max (a x : Int) : (if a > x then a else x) = max x a := by
  rcases Int.lt_or_le x a with h | h
  · rw [if_pos h, Int.max_eq_right (Int.le_of_lt h)]
  · rw [if_neg (Int.not_lt.mpr h), Int.max_eq_left h]

theorem bf_textout (w : World) (A : BufA) (hA : A.ok) (B : BufS) (S : GapS) (t : List Int) (n : Nat) (GT : GapT S t n) (x y : Int) (tx ty : Tok) (h0 : 1 ≤ x) (h1 : x ≤ y) (h2 : y ≤ t.length + 1) :
    Cal w 83 [.ref A.bx, .int x tx, .int y ty] 8 80 (bufL w.params A B ++ gapL w.params A.G S) (X := BufS × GapS × Addr) (fun r => .ref r.2.2) (fun r => bufL w.params A r.1 ++ gapL w.params A.G r.2.1) (fun _ r => r.1.begv = B.begv ∧ r.1.zv = B.zv - (y - x) ∧ r.1.point = pOut x y B.point ∧ GapT r.2.1 (t.take (x - 1).toNat ++ t.drop (y - 1).toNat) n) := by
  have hfill : hd.heap_1 = hd.heap_1 ∧ PySem.Challenge.rw_pq0288_01 = PySem.Challenge.rw_pq0288_01 := by k_fill; exact ⟨rfl, rfl⟩
  clear hfill
  have hA' := hA.low
  obtain ⟨b1, b2, b3, b4, b5, b6, b7, b8⟩ := hA'
  have b9 : @LT.lt Nat _ A.dx A.ls := hA.lt 0 8 rfl rfl rfl
  intro mean mg mb dp un gdd cn csc a ccd cll outer A₀ base h₀ L m s rest Q E B' F KX N off T hk hdp hun hret
  refine wpAny_call ?_
  k_dflt k_enter
  k_steps
  all_goals (try dsimp only)
  all_goals rename Fr _ _ _ _ => fE
  all_goals rename News _ _ _ _ => nE
  all_goals refine Cal.done rest hret (⟨⟨_, _, _, _, _, _, _, _, _, _, _, _, _, _, _, _, _, _, _, _, _, _, _, _⟩, _, _, _, _, _, _, _, _, _, _⟩, _, _) fE nE (sub_app (sub_bufX (t := []) (by k_subL)) (by k_subL)) ⟨?_, ?_, ?_, by assumption⟩
  all_goals (first | rfl | (dsimp only [pOut]; first | (rw [if_pos (by assumption : x < B.point)]; exact gt_max ..) | (rw [if_neg (by assumption : ¬ x < B.point)]) | omega))

end Mine

namespace Mine

theorem bf_textin (w : World) (A : BufA) (hA : A.ok) (B : BufS) (S : GapS) (t : List Int) (n : Nat) (GT : GapT S t n) (x : Int) (tx : Tok) (c : Addr) (vs : List Value) (ms : List Int) (k : Nat) (hv : IntsAre vs ms) (h0 : 1 ≤ x) (h2 : x ≤ t.length + 1) (h3 : n ≤ 900) (h4 : ms.length ≤ 40) (hc : NotIn A c) :
    Cal w 90 [.ref A.bx, .int x tx, .ref c] 8 80 (bufL w.params A B ++ gapL w.params A.G S ++ [(c, listOf vs.toArray k)]) (X := BufS × GapS) (fun _ => .none) (fun r => bufL w.params A r.1 ++ gapL w.params A.G r.2 ++ [(c, listOf vs.toArray k)]) (fun _ r => r.1.begv = B.begv ∧ r.1.zv = B.zv + ms.length ∧ r.1.point = pIn x ms.length B.point ∧ GapT r.2 (t.take (x - 1).toNat ++ ms ++ t.drop (x - 1).toNat) (n + 42)) := by
  have hfill : hd.heap_1 = hd.heap_1 ∧ PySem.Challenge.rw_pq0288_01 = PySem.Challenge.rw_pq0288_01 := by k_fill; exact ⟨rfl, rfl⟩
  clear hfill
  have hA' := hA.low
  obtain ⟨b1, b2, b3, b4, b5, b6, b7, b8⟩ := hA'
  have b9 : @LT.lt Nat _ A.dx A.ls := hA.lt 0 8 rfl rfl rfl
  have hc' := hc.low
  obtain ⟨n1, n2, n3, n4, n5, n6⟩ := hc'
  intro mean mg mb dp un gdd cn csc a ccd cll outer A₀ base h₀ L m s rest Q E B' F KX N off T hk hdp hun hret
  refine wpAny_call ?_
  k_dflt k_enter
  k_steps
  all_goals (try dsimp only)
  all_goals rename Fr _ _ _ _ => fE
  all_goals rename News _ _ _ _ => nE
  all_goals refine Cal.done rest hret (⟨⟨_, _, _, _, _, _, _, _, _, _, _, _, _, _, _, _, _, _, _, _, _, _, _, _⟩, _, _, _, _, _, _, _, _, _, _⟩, _) fE nE (sub_app (sub_app (sub_bufX (t := []) (by k_subL)) (by k_subL)) (by k_subL)) ⟨?_, ?_, ?_, by assumption⟩
  all_goals (first | rfl | (dsimp only [pIn]; omega))

end Mine

end Lay8

section Lay9
open PySem PySem.Spec PySem.Calls PySem.W PyProof.Rows

theorem Mine.lay9 : True := by
  w_top off
  k_with "~L9:ktr_room" => k_extra "~w0"
  k_with "~L9:k_ne" => k_extra "~w1"
  k_with "~L9:ktr_room" => k_extra "~w2"
  k_with "~L9:ktr_units" => k_extra "~w2"
  k_with "~L9:ktr_room" => k_extra "~w3"
  k_with "~L9:ktr_units" => k_extra "~w4"
  k_with "~L9:is_list" => k_extra "~w5"
  k_with "~L9:k_enter" => k_extra "~w20"
  k_with "~L9:k_subL" => k_extra "~w7"
  k_with "~L9:setItem ref ref" => k_extra "~w8"
  k_with "~L9:k_clsL" => k_extra "~w9"
  k_with "~L9:k_offL" => k_extra "~w21"
  k_with "~L9:k_clsL" => k_extra "~w22"
  k_with "~L9:k_subL" => k_extra "~w23"
  k_with "~L9:call ref" => k_extra "~w24"
  k_with "~L9:call ref" => k_extra "~w25"
  k_with "~L9:call ref" => k_extra "~w26"
  k_with "~L9:call ref" => k_extra "~w27"
  k_with "~L9:call builtin:sorted" => k_extra "~w28"
  k_with "~L9:call ref" => k_extra "~w29"
  k_with "~L9:call ref" => k_extra "~w30"
  k_with "~L9:call ref" => k_extra "~w31"
  k_with "~L9:call ref" => k_extra "~w32"
  k_with "~L9:call ref" => k_extra "~w33"
  k_with "~L9:call ref" => k_extra "~w34"
  k_with "~L9:call ref" => k_extra "~w35"
  k_with "~L9:call ref" => k_extra "~w36"
  k_with "~L9:call ref" => k_extra "~w37"
  trivial

namespace Mine

theorem bf_behind (w : World) (A : BufA) (hA : A.ok) (B : BufS) (x y z : Int) (tx ty tz : Tok) :
    Cal w 76 [.ref A.bx, .int x tx, .int y ty, .int z tz] 4 60 (bufL w.params A B) (X := BufS) (fun _ => .none) (fun r => bufL w.params A r) (fun _ r => B.same r) := by
  have hfill : hd.heap_1 = hd.heap_1 ∧ PySem.Challenge.rw_pq0288_01 = PySem.Challenge.rw_pq0288_01 := by k_fill; exact ⟨rfl, rfl⟩
  clear hfill
  have hA' := hA.low
  obtain ⟨b1, b2, b3, b4, b5, b6, b7, b8⟩ := hA'
  intro mean mg mb dp un gdd cn csc a ccd cll outer A₀ base h₀ L m s rest Q E B' F KX N off T hk hdp hun hret
  refine wpAny_call ?_
  k_dflt k_enter
  k_steps
  rename Fr _ _ _ _ => fE
  rename News _ _ _ _ => nE
  exact Cal.done rest hret _ fE nE (by k_subL) (by assumption)

end Mine

namespace Mine

theorem bf_reached (w : World) (A : BufA) (hA : A.ok) (B : BufS) (x y : Int) (tx ty : Tok) (h1 : B.begv ≤ x) (h2 : x ≤ B.zv) (h3 : B.begv ≤ y) (h4 : y ≤ B.zv) :
    Cal w 62 [.ref A.bx, .int x tx, .int y ty] 4 60 (bufL w.params A B) (X := Addr × Int × Tok × Int × Tok) (fun r => .ref r.1) (fun r => (r.1, pairO r.2.1 r.2.2.1 r.2.2.2.1 r.2.2.2.2) :: bufL w.params A B) (fun rest r => r.2.1 = min x y ∧ r.2.2.2.1 = max x y ∧ ∀ p ∈ bufL w.params A B ++ rest, p.1 < r.1) := by
  have hfill : hd.heap_1 = hd.heap_1 ∧ PySem.Challenge.rw_pq0288_01 = PySem.Challenge.rw_pq0288_01 := by k_fill; exact ⟨rfl, rfl⟩
  clear hfill
  have hA' := hA.low
  obtain ⟨b1, b2, b3, b4, b5, b6, b7, b8⟩ := hA'
  intro mean mg mb dp un gdd cn csc a ccd cll outer A₀ base h₀ L m s rest Q E B' F KX N off T hk hdp hun hret
  refine wpAny_call ?_
  dsimp only [bufL, gapL, rowsL, mksL, mkL, List.cons_append, List.nil_append, List.append_nil] at N
  k_dflt cell_enter
  k_steps
  rename Fr h₀ L _ m => fE
  rename News h₀ L _ _ => nE
  rename _ ∧ _ ∧ _ ∧ _ ∧ AllLt _ _ => lE
  obtain ⟨l0, l1, l2, l3, l4⟩ := lE
  refine hret (_, if y < x then y else x, if y < x then ty else tx, if y > x then y else x, if y > x then ty else tx) _ _ ⟨?_, ?_, fun p hp => ?_⟩ fE (News.sub nE (by k_subL))
  · dsimp only; (simp only [Int.min_def, Int.max_def]; (repeat' split) <;> omega)
  · dsimp only; (simp only [Int.min_def, Int.max_def]; (repeat' split) <;> omega)
  · exact allLt_at (l := bufL w.params A B ++ rest) ⟨l1, l2, l3, l4⟩ p hp

theorem bf_reach0 (w : World) (A : BufA) (hA : A.ok) (B : BufS) (x y : Int) (tx ty : Tok) (h1 : B.begv ≤ x) (h2 : x ≤ B.zv) (h3 : B.begv ≤ y) (h4 : y ≤ B.zv) :
    Cal w 62 [.ref A.bx, .int x tx, .int y ty] 4 60 (bufL w.params A B) (X := Addr) (fun r => .ref r) (fun r => bufL w.params A B) (fun rest r => True) := by
  have hfill : hd.heap_1 = hd.heap_1 ∧ PySem.Challenge.rw_pq0288_01 = PySem.Challenge.rw_pq0288_01 := by k_fill; exact ⟨rfl, rfl⟩
  clear hfill
  have hA' := hA.low
  obtain ⟨b1, b2, b3, b4, b5, b6, b7, b8⟩ := hA'
  intro mean mg mb dp un gdd cn csc a ccd cll outer A₀ base h₀ L m s rest Q E B' F KX N off T hk hdp hun hret
  refine wpAny_call ?_
  k_dflt k_enter
  k_steps
  all_goals (try dsimp only)
  all_goals rename Fr _ _ _ _ => fE
  all_goals rename News _ _ _ _ => nE
  exact Cal.done rest hret _ fE nE (by k_subL) trivial

end Mine

namespace Mine

theorem bf_room (w : World) (A : BufA) (hA : A.ok) (B : BufS) (S : GapS) (t : List Int) (n : Nat) (GT : GapT S t n) (x : Int) (tx : Tok) (h1 : x ≤ 1000) :
    Cal w 55 [.ref A.bx, .int x tx] 6 80 (bufL w.params A B ++ gapL w.params A.G S) (X := Unit) (fun r => .none) (fun r => bufL w.params A B ++ gapL w.params A.G S) (fun rest r => True) := by
  have hfill : hd.heap_1 = hd.heap_1 ∧ PySem.Challenge.rw_pq0288_01 = PySem.Challenge.rw_pq0288_01 := by k_fill; exact ⟨rfl, rfl⟩
  clear hfill
  have hA' := hA.low
  obtain ⟨b1, b2, b3, b4, b5, b6, b7, b8⟩ := hA'
  have hsm := GT.small
  intro mean mg mb dp un gdd cn csc a ccd cll outer A₀ base h₀ L m s rest Q E B' F KX N off T hk hdp hun hret
  refine wpAny_call ?_
  k_dflt k_enter
  k_steps
  rename Fr _ _ _ _ => fE
  rename News _ _ _ _ => nE
  exact Cal.done rest hret () fE nE (by k_subL) trivial

end Mine

end Lay9

section Lay10
open PySem PySem.Spec PySem.Calls PySem.W PyProof.Rows

theorem Mine.lay10 : True := by
  w_top off
  k_with "~L10:ktr_room" => k_extra "~w0"
  k_with "~L10:is_list" => k_extra "~w5"
  k_with "~L10:k_enter" => k_extra "~w52"
  k_with "~L10:top_caught0" => k_extra "~w53"
  k_with "~L10:k_ne" => k_extra "~w54"
  k_with "~L10:l_idx" => k_extra "~w55"
  k_with "~L10:ktr_room" => k_extra "~w2"
  k_with "~L10:ktr_units" => k_extra "~w2"
  k_with "~L10:ktr_room" => k_extra "~w3"
  k_with "~L10:ktr_units" => k_extra "~w4"
  k_with "~L10:k_mem" => k_extra "~w57"
  k_with "~L10:k_inst" => k_extra "~w59"
  k_with "~L10:tlg_ne" => k_extra "~w62"
  k_with "~L10:k_all" => k_extra "~w63"
  k_with "~L10:lcg_off" => k_extra "~w64"
  k_with "~L10:k_lt" => k_extra "~w65"
  k_with "~L10:k_upd" => k_extra "~w66"
  k_with "~L10:k_updF" => k_extra "~w67"
  k_with "~L10:setAttr ref" => k_extra "~w68"
  k_with "~L10:setAttr ref" => k_extra "~w69"
  k_with "~L10:setAttr ref" => k_extra "~w70"
  trivial

namespace Mine

/-! the markers' loops, the If once -/
theorem pwm_cons {a b : Nat} {l : List Nat} (h : a < b) (hp : (b :: l).Pairwise (· < ·)) : (a :: b :: l).Pairwise (· < ·) := by
  refine List.pairwise_cons.mpr ⟨fun x hx => ?_, hp⟩
  rcases List.mem_cons.mp hx with rfl | hx
  · exact h
  · exact Nat.lt_trans h ((List.pairwise_cons.mp hp).1 x hx)
def MkA.addrs (M : MkA) : List Nat := [M.kd, M.kk, M.rows, M.d0, M.m0, M.d1, M.m1, M.d2, M.m2, M.d3, M.m3]
theorem MkA.ok.pw {M : MkA} (h : M.ok) : M.addrs.Pairwise (· < ·) := by
  obtain ⟨a1, a2, a3, a4, a5, a6, a7, a8, a9, a10⟩ := h
  exact pwm_cons a1 (pwm_cons a2 (pwm_cons a3 (pwm_cons a4 (pwm_cons a5 (pwm_cons a6 (pwm_cons a7 (pwm_cons a8 (pwm_cons a9 (pwm_cons a10 (List.pairwise_singleton _ _))))))))))
theorem MkA.ok.lt {M : MkA} (h : M.ok) (i j : Nat) (hi : Nat.ble (i + 1) 11 = true) (hj : Nat.ble (j + 1) 11 = true) (hij : Nat.ble (i + 1) j = true) : M.addrs[i]'(Nat.le_of_ble_eq_true hi) < M.addrs[j]'(Nat.le_of_ble_eq_true hj) := List.pairwise_iff_getElem.mp h.pw i j _ _ (Nat.le_of_ble_eq_true hij)
theorem MkA.ok.ne {M : MkA} (h : M.ok) (i j : Nat) (hi : Nat.ble (i + 1) 11 = true) (hj : Nat.ble (j + 1) 11 = true) (hij : (Nat.ble (i + 1) j || Nat.ble (j + 1) i) = true) : @Ne Nat (M.addrs[i]'(Nat.le_of_ble_eq_true hi)) (M.addrs[j]'(Nat.le_of_ble_eq_true hj)) := by
  rcases Bool.or_eq_true_iff.mp hij with q | q
  · exact Nat.ne_of_lt (h.lt i j hi hj q)
  · exact Nat.ne_of_gt (h.lt j i hj hi q)
theorem mks_hi {P : Params} {M : MkA} {K : MkS} {D : Addr} {l : List (Addr × Obj)} (h : ∀ p ∈ l, p.1 < D) (s : Sub (mksL P M K) l) : @LT.lt Nat _ M.m3 D := h _ (s (M.m3, instObj 332 M.d3) (by simp [mksL]))
theorem mks_le {M : MkA} (h : M.ok) (i : Nat) (hi : Nat.ble (i + 1) 11 = true) {D : Addr} (hD : @LT.lt Nat _ M.m3 D) : D ≠ M.addrs[i]'(Nat.le_of_ble_eq_true hi) := by
  refine Nat.ne_of_gt (Nat.lt_of_le_of_lt ?_ hD)
  rcases Nat.lt_or_ge i 10 with q | q
  · exact Nat.le_of_lt (h.lt i 10 hi rfl (Nat.ble_eq_true_of_le q))
  · have : i = 10 := by have := Nat.le_of_ble_eq_true hi; omega
    subst this
    exact Nat.le_refl _
theorem off_rm {P : Params} {M : MkA} {K : MkS} {k : Tok} {o : Obj} (h : M.ok) : Off (rowsL P M k o) (mksL P M K) := off_idx h.pw [1, 0, 2] [4, 3, 6, 5, 8, 7, 10, 9] rfl rfl rfl
theorem mks_off {P : Params} {M : MkA} {K : MkS} {D : Addr} (h : M.ok) (hD : @LT.lt Nat _ M.m3 D) : ∀ p ∈ mksL P M K, p.1 ≠ D :=
  List.forall_mem_cons.mpr ⟨(mks_le h 4 rfl hD).symm, List.forall_mem_cons.mpr ⟨(mks_le h 3 rfl hD).symm, List.forall_mem_cons.mpr ⟨(mks_le h 6 rfl hD).symm, List.forall_mem_cons.mpr ⟨(mks_le h 5 rfl hD).symm, List.forall_mem_cons.mpr ⟨(mks_le h 8 rfl hD).symm, List.forall_mem_cons.mpr ⟨(mks_le h 7 rfl hD).symm, List.forall_mem_cons.mpr ⟨(mks_le h 10 rfl hD).symm, List.forall_mem_cons.mpr ⟨(mks_le h 9 rfl hD).symm, List.forall_mem_nil _⟩⟩⟩⟩⟩⟩⟩⟩
theorem four_ne {a b c d : Addr × Obj} {X : List (Addr × Obj)} {D : Addr} (h : ∀ p ∈ a :: b :: c :: d :: X, p.1 < D) : ∀ p ∈ [a, b, c, d], p.1 ≠ D := fun p hp => Nat.ne_of_lt (h p ((show Sub [a, b, c, d] (a :: b :: c :: d :: X) by nest_cls) p hp))
theorem unr_cut7 {h₀ : Heap} {L I : Addr} {it : Obj} {rest : (Str → Option Value) → List (Addr × Obj) → Prop} {s₁ : Shared} {h' : Heap} {tk : Nat} {m' : Str → Option Value} {P : Params} {M : MkA} {K : MkS} {a b c d : Addr × Obj}
    (F : Fr h₀ L h' m') (N : News h₀ L h' ((I, it) :: a :: b :: c :: d :: mksL P M K)) (hn : ∀ p ∈ [a, b, c, d], p.1 ≠ I) (hM : M.ok) (hI : @LT.lt Nat _ M.m3 I) (r : rest m' (a :: b :: c :: d :: mksL P M K)) : UnrEnd h₀ L s₁ I it rest { s₁ with heap := h', toks := tk } :=
  UnrEnd.intro F N (a :: b :: c :: d :: mksL P M K) (fun _ hp => hp) (fun p hp => (List.mem_append.mp (show p ∈ [a, b, c, d] ++ mksL P M K from hp)).elim (hn p) (mks_off hM hI p)) r
def IfDoes (w : World) (Ar : Around) (E : Value → Shared → Prop) (h₀ : Heap) (L : Addr) (St : Stmt) (env : Env) (ps : List (Str × Value)) (f : Int → Bool → Int) : Prop :=
  ∀ (m : Str → Option Value) (a d : Addr) (r : MkR) (rest : List (Addr × Obj)) (s : Shared) (Q : Flow → Shared → Prop), (∀ p ∈ ps, m p.1 = some p.2) → m (Str.ofString "marker") = some (.ref a) → Fr h₀ L s.heap m →
    News h₀ L s.heap ([(a, instObj 332 d)] ++ ([(d, dictOf (mkD w.params r) 4)] ++ rest)) → a ≠ d → (∀ p ∈ rest, p.1 ≠ d) →
    (∀ t h' tk', Fr h₀ L h' m → News h₀ L h' ([(a, instObj 332 d)] ++ ([(d, dictOf (mkD w.params (r.to (f r.pos r.adv) t)) 4)] ++ rest)) → Q .next { s with heap := h', toks := tk' }) →
    wpAny (model PG w) Ar (exec St env) Q E s
section
variable {w : World} {Ar : Around} {E : Value → Shared → Prop} {h₀ : Heap} {L : Addr} {St : Stmt} {env : Env} {ps : List (Str × Value)} {f : Int → Bool → Int} {m : Str → Option Value} {M : MkA} {K : MkS} {s : Shared} {Q : Flow → Shared → Prop} {i1 i2 : Addr} {o1 o2 o3 o4 o5 : Obj}
theorem mk_turn0 (H : IfDoes w Ar E h₀ L St env ps f) (hM : M.ok) (F : Fr h₀ L s.heap m) (hp : ∀ p ∈ ps, m p.1 = some p.2) (hm : m (Str.ofString "marker") = some (.ref M.m0)) (N : News h₀ L s.heap ((i1, o1) :: (i2, o2) :: (M.kk, o3) :: (M.kd, o4) :: (M.rows, o5) :: mksL w.params M K)) (n1 : @LT.lt Nat _ M.m3 i1) (n2 : @LT.lt Nat _ M.m3 i2)
    (h2 : ∀ t h' tk', Fr h₀ L h' m → News h₀ L h' ((i1, o1) :: (i2, o2) :: (M.kk, o3) :: (M.kd, o4) :: (M.rows, o5) :: mksL w.params M { K with r0 := K.r0.to (f K.r0.pos K.r0.adv) t }) → Q .next { s with heap := h', toks := tk' }) : wpAny (model PG w) Ar (exec St env) Q E s :=
  H m M.m0 M.d0 K.r0 ((i1, o1) :: (i2, o2) :: (M.kk, o3) :: (M.kd, o4) :: (M.rows, o5) :: [(M.m1, instObj 332 M.d1), (M.d1, dictOf (mkD w.params K.r1) 4), (M.m2, instObj 332 M.d2), (M.d2, dictOf (mkD w.params K.r2) 4), (M.m3, instObj 332 M.d3), (M.d3, dictOf (mkD w.params K.r3) 4)]) s Q hp hm F (News.sub N (by dsimp only [mksL, List.cons_append, List.nil_append]; nest_cls)) (hM.ne 4 3 rfl rfl rfl) (List.forall_mem_cons.mpr ⟨mks_le hM 3 rfl n1, List.forall_mem_cons.mpr ⟨mks_le hM 3 rfl n2, List.forall_mem_cons.mpr ⟨hM.ne 1 3 rfl rfl rfl, List.forall_mem_cons.mpr ⟨hM.ne 0 3 rfl rfl rfl, List.forall_mem_cons.mpr ⟨hM.ne 2 3 rfl rfl rfl, List.forall_mem_cons.mpr ⟨hM.ne 6 3 rfl rfl rfl, List.forall_mem_cons.mpr ⟨hM.ne 5 3 rfl rfl rfl, List.forall_mem_cons.mpr ⟨hM.ne 8 3 rfl rfl rfl, List.forall_mem_cons.mpr ⟨hM.ne 7 3 rfl rfl rfl, List.forall_mem_cons.mpr ⟨hM.ne 10 3 rfl rfl rfl, List.forall_mem_cons.mpr ⟨hM.ne 9 3 rfl rfl rfl, List.forall_mem_nil _⟩⟩⟩⟩⟩⟩⟩⟩⟩⟩⟩) fun t h' tk' F' N' => h2 t h' tk' F' (News.sub N' (by dsimp only [mksL, List.cons_append, List.nil_append]; nest_cls))
theorem mk_turn1 (H : IfDoes w Ar E h₀ L St env ps f) (hM : M.ok) (F : Fr h₀ L s.heap m) (hp : ∀ p ∈ ps, m p.1 = some p.2) (hm : m (Str.ofString "marker") = some (.ref M.m1)) (N : News h₀ L s.heap ((i1, o1) :: (i2, o2) :: (M.kk, o3) :: (M.kd, o4) :: (M.rows, o5) :: mksL w.params M K)) (n1 : @LT.lt Nat _ M.m3 i1) (n2 : @LT.lt Nat _ M.m3 i2)
    (h2 : ∀ t h' tk', Fr h₀ L h' m → News h₀ L h' ((i1, o1) :: (i2, o2) :: (M.kk, o3) :: (M.kd, o4) :: (M.rows, o5) :: mksL w.params M { K with r1 := K.r1.to (f K.r1.pos K.r1.adv) t }) → Q .next { s with heap := h', toks := tk' }) : wpAny (model PG w) Ar (exec St env) Q E s :=
  H m M.m1 M.d1 K.r1 ((i1, o1) :: (i2, o2) :: (M.kk, o3) :: (M.kd, o4) :: (M.rows, o5) :: [(M.m0, instObj 332 M.d0), (M.d0, dictOf (mkD w.params K.r0) 4), (M.m2, instObj 332 M.d2), (M.d2, dictOf (mkD w.params K.r2) 4), (M.m3, instObj 332 M.d3), (M.d3, dictOf (mkD w.params K.r3) 4)]) s Q hp hm F (News.sub N (by dsimp only [mksL, List.cons_append, List.nil_append]; nest_cls)) (hM.ne 6 5 rfl rfl rfl) (List.forall_mem_cons.mpr ⟨mks_le hM 5 rfl n1, List.forall_mem_cons.mpr ⟨mks_le hM 5 rfl n2, List.forall_mem_cons.mpr ⟨hM.ne 1 5 rfl rfl rfl, List.forall_mem_cons.mpr ⟨hM.ne 0 5 rfl rfl rfl, List.forall_mem_cons.mpr ⟨hM.ne 2 5 rfl rfl rfl, List.forall_mem_cons.mpr ⟨hM.ne 4 5 rfl rfl rfl, List.forall_mem_cons.mpr ⟨hM.ne 3 5 rfl rfl rfl, List.forall_mem_cons.mpr ⟨hM.ne 8 5 rfl rfl rfl, List.forall_mem_cons.mpr ⟨hM.ne 7 5 rfl rfl rfl, List.forall_mem_cons.mpr ⟨hM.ne 10 5 rfl rfl rfl, List.forall_mem_cons.mpr ⟨hM.ne 9 5 rfl rfl rfl, List.forall_mem_nil _⟩⟩⟩⟩⟩⟩⟩⟩⟩⟩⟩) fun t h' tk' F' N' => h2 t h' tk' F' (News.sub N' (by dsimp only [mksL, List.cons_append, List.nil_append]; nest_cls))
theorem mk_turn2 (H : IfDoes w Ar E h₀ L St env ps f) (hM : M.ok) (F : Fr h₀ L s.heap m) (hp : ∀ p ∈ ps, m p.1 = some p.2) (hm : m (Str.ofString "marker") = some (.ref M.m2)) (N : News h₀ L s.heap ((i1, o1) :: (i2, o2) :: (M.kk, o3) :: (M.kd, o4) :: (M.rows, o5) :: mksL w.params M K)) (n1 : @LT.lt Nat _ M.m3 i1) (n2 : @LT.lt Nat _ M.m3 i2)
    (h2 : ∀ t h' tk', Fr h₀ L h' m → News h₀ L h' ((i1, o1) :: (i2, o2) :: (M.kk, o3) :: (M.kd, o4) :: (M.rows, o5) :: mksL w.params M { K with r2 := K.r2.to (f K.r2.pos K.r2.adv) t }) → Q .next { s with heap := h', toks := tk' }) : wpAny (model PG w) Ar (exec St env) Q E s :=
  H m M.m2 M.d2 K.r2 ((i1, o1) :: (i2, o2) :: (M.kk, o3) :: (M.kd, o4) :: (M.rows, o5) :: [(M.m0, instObj 332 M.d0), (M.d0, dictOf (mkD w.params K.r0) 4), (M.m1, instObj 332 M.d1), (M.d1, dictOf (mkD w.params K.r1) 4), (M.m3, instObj 332 M.d3), (M.d3, dictOf (mkD w.params K.r3) 4)]) s Q hp hm F (News.sub N (by dsimp only [mksL, List.cons_append, List.nil_append]; nest_cls)) (hM.ne 8 7 rfl rfl rfl) (List.forall_mem_cons.mpr ⟨mks_le hM 7 rfl n1, List.forall_mem_cons.mpr ⟨mks_le hM 7 rfl n2, List.forall_mem_cons.mpr ⟨hM.ne 1 7 rfl rfl rfl, List.forall_mem_cons.mpr ⟨hM.ne 0 7 rfl rfl rfl, List.forall_mem_cons.mpr ⟨hM.ne 2 7 rfl rfl rfl, List.forall_mem_cons.mpr ⟨hM.ne 4 7 rfl rfl rfl, List.forall_mem_cons.mpr ⟨hM.ne 3 7 rfl rfl rfl, List.forall_mem_cons.mpr ⟨hM.ne 6 7 rfl rfl rfl, List.forall_mem_cons.mpr ⟨hM.ne 5 7 rfl rfl rfl, List.forall_mem_cons.mpr ⟨hM.ne 10 7 rfl rfl rfl, List.forall_mem_cons.mpr ⟨hM.ne 9 7 rfl rfl rfl, List.forall_mem_nil _⟩⟩⟩⟩⟩⟩⟩⟩⟩⟩⟩) fun t h' tk' F' N' => h2 t h' tk' F' (News.sub N' (by dsimp only [mksL, List.cons_append, List.nil_append]; nest_cls))
theorem mk_turn3 (H : IfDoes w Ar E h₀ L St env ps f) (hM : M.ok) (F : Fr h₀ L s.heap m) (hp : ∀ p ∈ ps, m p.1 = some p.2) (hm : m (Str.ofString "marker") = some (.ref M.m3)) (N : News h₀ L s.heap ((i1, o1) :: (i2, o2) :: (M.kk, o3) :: (M.kd, o4) :: (M.rows, o5) :: mksL w.params M K)) (n1 : @LT.lt Nat _ M.m3 i1) (n2 : @LT.lt Nat _ M.m3 i2)
    (h2 : ∀ t h' tk', Fr h₀ L h' m → News h₀ L h' ((i1, o1) :: (i2, o2) :: (M.kk, o3) :: (M.kd, o4) :: (M.rows, o5) :: mksL w.params M { K with r3 := K.r3.to (f K.r3.pos K.r3.adv) t }) → Q .next { s with heap := h', toks := tk' }) : wpAny (model PG w) Ar (exec St env) Q E s :=
  H m M.m3 M.d3 K.r3 ((i1, o1) :: (i2, o2) :: (M.kk, o3) :: (M.kd, o4) :: (M.rows, o5) :: [(M.m0, instObj 332 M.d0), (M.d0, dictOf (mkD w.params K.r0) 4), (M.m1, instObj 332 M.d1), (M.d1, dictOf (mkD w.params K.r1) 4), (M.m2, instObj 332 M.d2), (M.d2, dictOf (mkD w.params K.r2) 4)]) s Q hp hm F (News.sub N (by dsimp only [mksL, List.cons_append, List.nil_append]; nest_cls)) (hM.ne 10 9 rfl rfl rfl) (List.forall_mem_cons.mpr ⟨mks_le hM 9 rfl n1, List.forall_mem_cons.mpr ⟨mks_le hM 9 rfl n2, List.forall_mem_cons.mpr ⟨hM.ne 1 9 rfl rfl rfl, List.forall_mem_cons.mpr ⟨hM.ne 0 9 rfl rfl rfl, List.forall_mem_cons.mpr ⟨hM.ne 2 9 rfl rfl rfl, List.forall_mem_cons.mpr ⟨hM.ne 4 9 rfl rfl rfl, List.forall_mem_cons.mpr ⟨hM.ne 3 9 rfl rfl rfl, List.forall_mem_cons.mpr ⟨hM.ne 6 9 rfl rfl rfl, List.forall_mem_cons.mpr ⟨hM.ne 5 9 rfl rfl rfl, List.forall_mem_cons.mpr ⟨hM.ne 8 9 rfl rfl rfl, List.forall_mem_cons.mpr ⟨hM.ne 7 9 rfl rfl rfl, List.forall_mem_nil _⟩⟩⟩⟩⟩⟩⟩⟩⟩⟩⟩) fun t h' tk' F' N' => h2 t h' tk' F' (News.sub N' (by dsimp only [mksL, List.cons_append, List.nil_append]; nest_cls))

end
def ifOf (s : Stmt) : Stmt := match s with
  | .FunctionDef _ _ [.For _ _ [_, i] _ _] .. => i
  | s => s
def scOf (s : Stmt) : Scope := match s with
  | .FunctionDef _ _ _ _ _ _ sc .. => sc
  | _ => default
theorem mkD_fold {h₀ h : Heap} {L a d : Addr} {P : Params} {r : MkR} {rest : List (Addr × Obj)} {f : Int → Bool → Int} {v : Int} {t : Tok} (e : v = f r.pos r.adv)
    (N : News h₀ L h ([(a, instObj 332 d)] ++ ([(d, dictOf (mkD P (r.to v t)) 4)] ++ rest))) : News h₀ L h ([(a, instObj 332 d)] ++ ([(d, dictOf (mkD P (r.to (f r.pos r.adv) t)) 4)] ++ rest)) := e ▸ N
theorem mkD_same {h₀ h : Heap} {L a d : Addr} {P : Params} {r : MkR} {rest : List (Addr × Obj)} {f : Int → Bool → Int} (e : r.pos = f r.pos r.adv)
    (N : News h₀ L h ([(a, instObj 332 d)] ++ ([(d, dictOf (mkD P r) 4)] ++ rest))) : News h₀ L h ([(a, instObj 332 d)] ++ ([(d, dictOf (mkD P (r.to (f r.pos r.adv) r.t2)) 4)] ++ rest)) := mkD_fold (v := r.pos) (t := r.t2) e N
section
variable {w : World} {Ar : Around} {E : Value → Shared → Prop} {s : Shared} {h₀ : Heap} {L a d : Addr} {m : Str → Option Value} {rest : List (Addr × Obj)} {r : MkR} {v : Int} {t : Tok}
theorem mk_set {Q : Unit → Shared → Prop} {K : Frag} (hs : findIn K (.ref 332) "__setattr__" = some (some (.builtin "object.__setattr__"))) (hp : plainOver K 332 = true) (ht : takerIn K 332 (Str.ofString "position") = some none) (hh : hasDictIn K 332 = true)
    (F : Fr h₀ L s.heap m) (X₀ : K.In h₀) (N : News h₀ L s.heap ([(a, instObj 332 d)] ++ ([(d, dictOf (mkD w.params r) 4)] ++ rest))) (hn : a ≠ d) (ho : ∀ p ∈ rest, p.1 ≠ d)
    (h : ∀ h', Fr h₀ L h' m → News h₀ L h' ([(a, instObj 332 d)] ++ ([(d, dictOf (mkD w.params (r.to v t)) 4)] ++ rest)) → Q () { s with heap := h', toks := s.toks + 2 }) :
    wpAny (model PG w) Ar (setAttr (.ref a) (Str.ofString "position") (.int v t)) Q E s :=
  set_dict (es' := mkD w.params (r.to v t)) (n' := 4) (dx := d) F X₀ N (InstAt.of_news N (.head _) (.tail _ (.head _))) rfl hs hp ht hh (by k_get) (by k_put) (.tail hn (.head ho)) (Nat.le_of_ble_eq_true rfl) fun h' F' N' => h h' F' N'
end

end Mine

end Lay10

section Lay11
open PySem PySem.Spec PySem.Calls PySem.W PyProof.Rows

theorem Mine.lay11 : True := by
  w_top off
  k_with "~L11:ktr_room" => k_extra "~w0"
  k_with "~L11:is_list" => k_extra "~w5"
  k_with "~L11:k_enter" => k_extra "~w52"
  k_with "~L11:top_caught0" => k_extra "~w53"
  k_with "~L11:k_ne" => k_extra "~w54"
  k_with "~L11:l_idx" => k_extra "~w55"
  k_with "~L11:ktr_room" => k_extra "~w2"
  k_with "~L11:ktr_units" => k_extra "~w2"
  k_with "~L11:ktr_room" => k_extra "~w3"
  k_with "~L11:ktr_units" => k_extra "~w4"
  k_with "~L11:k_mem" => k_extra "~w57"
  k_with "~L11:k_inst" => k_extra "~w59"
  k_with "~L11:tlg_ne" => k_extra "~w62"
  k_with "~L11:k_all" => k_extra "~w63"
  k_with "~L11:lcg_off" => k_extra "~w64"
  k_with "~L11:k_lt" => k_extra "~w65"
  k_with "~L11:k_upd" => k_extra "~w66"
  k_with "~L11:k_updF" => k_extra "~w67"
  k_with "~L11:setAttr ref" => k_extra "~w68"
  k_with "~L11:setAttr ref" => k_extra "~w69"
  k_with "~L11:setAttr ref" => k_extra "~w70"
  k_with "~L11:tlg_ne" => k_extra "~w71"
  k_with "~L11:k_inst" => k_extra "~w72"
  k_with "~L11:k_lt" => k_extra "~w73"
  k_with "~L11:lcg_off" => k_extra "~w74"
  k_with "~L11:call ref" => k_extra "~w75"
  k_with "~L11:pyIter ref" => k_extra "~w76"
  k_with "~L11:UnrEnd" => k_extra "~w77"
  k_with "~L11:setAttr ref" => k_extra "~w78"
  trivial

namespace Mine

theorem ins_if (w : World) {Ar : Around} {E : Value → Shared → Prop} {h₀ : Heap} {mean : ExcName → Option Value} {mg mb : Str → Option Value} (q : Str) (L g : Addr) (cd : Value) (kX : (hd.heap_1 w.params).In h₀) (kT : Top H.qv (looseW H.qv LS) mean mg mb h₀) (x y : Int) (tx ty : Tok) (b : Bool) :
    IfDoes w Ar E h₀ L (ifOf (H.ms 29 5)) (envOf q (scOf (H.ms 29 5)) L g cd) [(Str.ofString "start", Value.int x tx), (Str.ofString "end", Value.int y ty), (Str.ofString "is_before", Value.bool b)] (insF x y b) := by
  have hfill : hd.heap_1 = hd.heap_1 ∧ PySem.Challenge.rw_pq0288_01 = PySem.Challenge.rw_pq0288_01 := by k_fill; exact ⟨rfl, rfl⟩
  clear hfill
  intro m a9 d9 r9 rest s Q hp hm F0 N hn ho h2
  have hk : kstB m [(Str.ofString "start", Value.int x tx), (Str.ofString "end", Value.int y ty), (Str.ofString "is_before", Value.bool b), (Str.ofString "marker", Value.ref a9)] = m := kstB_self (List.forall_mem_cons.mpr ⟨hp _ (by tb_start), List.forall_mem_cons.mpr ⟨hp _ (by tb_start), List.forall_mem_cons.mpr ⟨hp _ (by tb_start), List.forall_mem_cons.mpr ⟨hm, List.forall_mem_nil _⟩⟩⟩⟩)
  have F : Fr h₀ L s.heap (fun z9 => if z9 = Str.ofString "start" then some (Value.int x tx) else if z9 = Str.ofString "end" then some (Value.int y ty) else if z9 = Str.ofString "is_before" then some (Value.bool b) else if z9 = Str.ofString "marker" then some (Value.ref a9) else m z9) := by
    show Fr h₀ L s.heap (kstB m [(Str.ofString "start", Value.int x tx), (Str.ofString "end", Value.int y ty), (Str.ofString "is_before", Value.bool b), (Str.ofString "marker", Value.ref a9)])
    rw [hk]; exact F0
  have hk' : (fun z9 => if z9 = Str.ofString "start" then some (Value.int x tx) else if z9 = Str.ofString "end" then some (Value.int y ty) else if z9 = Str.ofString "is_before" then some (Value.bool b) else if z9 = Str.ofString "marker" then some (Value.ref a9) else m z9) = m := hk
  clear F0 hk
  conv in ifOf _ => whnf
  conv in (occs := *) scOf _ => all_goals whnf
  k_steps
  all_goals rename Fr _ _ _ _ => fE
  all_goals rw [hk'] at fE
  all_goals rename News _ _ _ _ => nE
  all_goals first
    | exact h2 _ _ _ fE (mkD_fold (ins_a (by with_reducible assumption)) nE)
    | exact h2 _ _ _ fE (mkD_fold (ins_b (by with_reducible assumption) (by with_reducible assumption)) nE)
    | exact h2 _ _ _ fE (mkD_fold (ins_c (by with_reducible assumption) (by with_reducible assumption)) nE)
    | exact h2 _ _ _ fE (mkD_same (ins_d (by with_reducible assumption) (by with_reducible assumption)) nE)
    | exact h2 _ _ _ fE (mkD_same (ins_e (by with_reducible assumption) (by with_reducible assumption) (by with_reducible assumption)) nE)

theorem mk_inserted (w : World) (M : MkA) (hM : M.ok) (hlo : (M.rows == sysModules) = false) (K : MkS) (ho : RowsIs w M K.o) (x y : Int) (tx ty : Tok) (b : Bool) :
    Cal w 383 [.ref M.kk, .int x tx, .int y ty, .bool b] 4 60 (mkL w.params M K) (X := MkS) (fun r => .none) (fun r => mkL w.params M r) (fun _ r => K.by r (insF x y b)) := by
  have hfill : hd.heap_1 = hd.heap_1 ∧ PySem.Challenge.rw_pq0288_01 = PySem.Challenge.rw_pq0288_01 := by k_fill; exact ⟨rfl, rfl⟩
  clear hfill
  have ho' : K.o.IsDictOf (PySem.intKind PG w) [(0, .ref M.m0), (1, .ref M.m1), (2, .ref M.m2), (3, .ref M.m3)] := ho
  have IFD := fun (Ar : Around) (E : Value → Shared → Prop) (h₀ : Heap) (mean : ExcName → Option Value) (mg mb : Str → Option Value) (q : Str) (L g : Addr) (cd : Value) kX kT => ins_if w (Ar := Ar) (E := E) (h₀ := h₀) (mean := mean) (mg := mg) (mb := mb) q L g cd kX kT x y tx ty b
  intro mean mg mb dp un gdd cn csc a ccd cll outer A₀ base h₀ L m s rest Q E B F KX N off T hk hdp hun hret
  dsimp only [mkL] at N off
  k_with "~L11:exec If" => (k_here; rename Fr _ _ _ _ => fE; rename News _ _ _ _ => nE; k_dflt (first | (refine' mk_turn0 (IFD _ _ _ _ _ _ _ _ _ _ (by k_asm) (by k_asm)) hM fE (List.forall_mem_cons.mpr ⟨rfl, List.forall_mem_cons.mpr ⟨rfl, List.forall_mem_cons.mpr ⟨rfl, List.forall_mem_nil _⟩⟩⟩) rfl nE (by with_reducible assumption) (by with_reducible assumption) ?_) | (refine' mk_turn1 (IFD _ _ _ _ _ _ _ _ _ _ (by k_asm) (by k_asm)) hM fE (List.forall_mem_cons.mpr ⟨rfl, List.forall_mem_cons.mpr ⟨rfl, List.forall_mem_cons.mpr ⟨rfl, List.forall_mem_nil _⟩⟩⟩) rfl nE (by with_reducible assumption) (by with_reducible assumption) ?_) | (refine' mk_turn2 (IFD _ _ _ _ _ _ _ _ _ _ (by k_asm) (by k_asm)) hM fE (List.forall_mem_cons.mpr ⟨rfl, List.forall_mem_cons.mpr ⟨rfl, List.forall_mem_cons.mpr ⟨rfl, List.forall_mem_nil _⟩⟩⟩) rfl nE (by with_reducible assumption) (by with_reducible assumption) ?_) | (refine' mk_turn3 (IFD _ _ _ _ _ _ _ _ _ _ (by k_asm) (by k_asm)) hM fE (List.forall_mem_cons.mpr ⟨rfl, List.forall_mem_cons.mpr ⟨rfl, List.forall_mem_cons.mpr ⟨rfl, List.forall_mem_nil _⟩⟩⟩) rfl nE (by with_reducible assumption) (by with_reducible assumption) ?_)); intro t9 h9 tk9 F9 N9; (try dsimp only); (try k_fold))
  refine wpAny_call ?_
  k_dflt k_enter
  k_steps
  rename Fr _ _ _ _ => fE
  rename News _ _ _ _ => nE
  exact Cal.done rest hret ⟨K.k, K.o, K.r0.to (insF x y b K.r0.pos K.r0.adv) _, K.r1.to (insF x y b K.r1.pos K.r1.adv) _, K.r2.to (insF x y b K.r2.pos K.r2.adv) _, K.r3.to (insF x y b K.r3.pos K.r3.adv) _⟩ fE nE (fun p hp => .tail _ hp) ⟨rfl, rfl, ⟨_, rfl⟩, ⟨_, rfl⟩, ⟨_, rfl⟩, ⟨_, rfl⟩⟩

theorem del_if (w : World) {Ar : Around} {E : Value → Shared → Prop} {h₀ : Heap} {mean : ExcName → Option Value} {mg mb : Str → Option Value} (q : Str) (L g : Addr) (cd : Value) (kX : (hd.heap_1 w.params).In h₀) (kT : Top H.qv (looseW H.qv LS) mean mg mb h₀) (x y : Int) (tx ty : Tok) :
    IfDoes w Ar E h₀ L (ifOf (H.ms 29 6)) (envOf q (scOf (H.ms 29 6)) L g cd) [(Str.ofString "start", Value.int x tx), (Str.ofString "end", Value.int y ty)] (delF x y) := by
  have hfill : hd.heap_1 = hd.heap_1 ∧ PySem.Challenge.rw_pq0288_01 = PySem.Challenge.rw_pq0288_01 := by k_fill; exact ⟨rfl, rfl⟩
  clear hfill
  intro m a9 d9 r9 rest s Q hp hm F0 N hn ho h2
  have hk : kstB m [(Str.ofString "start", Value.int x tx), (Str.ofString "end", Value.int y ty), (Str.ofString "marker", Value.ref a9)] = m := kstB_self (List.forall_mem_cons.mpr ⟨hp _ (by tb_start), List.forall_mem_cons.mpr ⟨hp _ (by tb_start), List.forall_mem_cons.mpr ⟨hm, List.forall_mem_nil _⟩⟩⟩)
  have F : Fr h₀ L s.heap (fun z9 => if z9 = Str.ofString "start" then some (Value.int x tx) else if z9 = Str.ofString "end" then some (Value.int y ty) else if z9 = Str.ofString "marker" then some (Value.ref a9) else m z9) := by
    show Fr h₀ L s.heap (kstB m [(Str.ofString "start", Value.int x tx), (Str.ofString "end", Value.int y ty), (Str.ofString "marker", Value.ref a9)])
    rw [hk]; exact F0
  have hk' : (fun z9 => if z9 = Str.ofString "start" then some (Value.int x tx) else if z9 = Str.ofString "end" then some (Value.int y ty) else if z9 = Str.ofString "marker" then some (Value.ref a9) else m z9) = m := hk
  clear F0 hk
  conv in ifOf _ => whnf
  conv in (occs := *) scOf _ => all_goals whnf
  k_steps
  all_goals rename Fr _ _ _ _ => fE
  all_goals rw [hk'] at fE
  all_goals rename News _ _ _ _ => nE
  all_goals first
    | exact h2 _ _ _ fE (mkD_fold (del_a (by with_reducible assumption)) nE)
    | exact h2 _ _ _ fE (mkD_fold (del_b (by with_reducible assumption) (by with_reducible assumption)) nE)
    | exact h2 _ _ _ fE (mkD_same (del_c (by with_reducible assumption) (by with_reducible assumption)) nE)

theorem mk_deleted (w : World) (M : MkA) (hM : M.ok) (hlo : (M.rows == sysModules) = false) (K : MkS) (ho : RowsIs w M K.o) (x y : Int) (tx ty : Tok) :
    Cal w 390 [.ref M.kk, .int x tx, .int y ty] 4 60 (mkL w.params M K) (X := MkS) (fun r => .none) (fun r => mkL w.params M r) (fun _ r => K.by r (delF x y)) := by
  have hfill : hd.heap_1 = hd.heap_1 ∧ PySem.Challenge.rw_pq0288_01 = PySem.Challenge.rw_pq0288_01 := by k_fill; exact ⟨rfl, rfl⟩
  clear hfill
  have ho' : K.o.IsDictOf (PySem.intKind PG w) [(0, .ref M.m0), (1, .ref M.m1), (2, .ref M.m2), (3, .ref M.m3)] := ho
  have IFD := fun (Ar : Around) (E : Value → Shared → Prop) (h₀ : Heap) (mean : ExcName → Option Value) (mg mb : Str → Option Value) (q : Str) (L g : Addr) (cd : Value) kX kT => del_if w (Ar := Ar) (E := E) (h₀ := h₀) (mean := mean) (mg := mg) (mb := mb) q L g cd kX kT x y tx ty
  intro mean mg mb dp un gdd cn csc a ccd cll outer A₀ base h₀ L m s rest Q E B F KX N off T hk hdp hun hret
  dsimp only [mkL] at N off
  k_with "~L11:exec If" => (k_here; rename Fr _ _ _ _ => fE; rename News _ _ _ _ => nE; k_dflt (first | (refine' mk_turn0 (IFD _ _ _ _ _ _ _ _ _ _ (by k_asm) (by k_asm)) hM fE (List.forall_mem_cons.mpr ⟨rfl, List.forall_mem_cons.mpr ⟨rfl, List.forall_mem_nil _⟩⟩) rfl nE (by with_reducible assumption) (by with_reducible assumption) ?_) | (refine' mk_turn1 (IFD _ _ _ _ _ _ _ _ _ _ (by k_asm) (by k_asm)) hM fE (List.forall_mem_cons.mpr ⟨rfl, List.forall_mem_cons.mpr ⟨rfl, List.forall_mem_nil _⟩⟩) rfl nE (by with_reducible assumption) (by with_reducible assumption) ?_) | (refine' mk_turn2 (IFD _ _ _ _ _ _ _ _ _ _ (by k_asm) (by k_asm)) hM fE (List.forall_mem_cons.mpr ⟨rfl, List.forall_mem_cons.mpr ⟨rfl, List.forall_mem_nil _⟩⟩) rfl nE (by with_reducible assumption) (by with_reducible assumption) ?_) | (refine' mk_turn3 (IFD _ _ _ _ _ _ _ _ _ _ (by k_asm) (by k_asm)) hM fE (List.forall_mem_cons.mpr ⟨rfl, List.forall_mem_cons.mpr ⟨rfl, List.forall_mem_nil _⟩⟩) rfl nE (by with_reducible assumption) (by with_reducible assumption) ?_)); intro t9 h9 tk9 F9 N9; (try dsimp only); (try k_fold))
  refine wpAny_call ?_
  k_dflt k_enter
  k_steps
  rename Fr _ _ _ _ => fE
  rename News _ _ _ _ => nE
  exact Cal.done rest hret ⟨K.k, K.o, K.r0.to (delF x y K.r0.pos K.r0.adv) _, K.r1.to (delF x y K.r1.pos K.r1.adv) _, K.r2.to (delF x y K.r2.pos K.r2.adv) _, K.r3.to (delF x y K.r3.pos K.r3.adv) _⟩ fE nE (fun p hp => .tail _ hp) ⟨rfl, rfl, ⟨_, rfl⟩, ⟨_, rfl⟩, ⟨_, rfl⟩, ⟨_, rfl⟩⟩

theorem rep_if (w : World) {Ar : Around} {E : Value → Shared → Prop} {h₀ : Heap} {mean : ExcName → Option Value} {mg mb : Str → Option Value} (q : Str) (L g : Addr) (cd : Value) (kX : (hd.heap_1 w.params).In h₀) (kT : Top H.qv (looseW H.qv LS) mean mg mb h₀) (x y n : Int) (tx ty tn : Tok) :
    IfDoes w Ar E h₀ L (ifOf (H.ms 29 7)) (envOf q (scOf (H.ms 29 7)) L g cd) [(Str.ofString "start", Value.int x tx), (Str.ofString "end", Value.int y ty), (Str.ofString "many", Value.int n tn)] (repF x y n) := by
  have hfill : hd.heap_1 = hd.heap_1 ∧ PySem.Challenge.rw_pq0288_01 = PySem.Challenge.rw_pq0288_01 := by k_fill; exact ⟨rfl, rfl⟩
  clear hfill
  intro m a9 d9 r9 rest s Q hp hm F0 N hn ho h2
  have hk : kstB m [(Str.ofString "start", Value.int x tx), (Str.ofString "end", Value.int y ty), (Str.ofString "many", Value.int n tn), (Str.ofString "marker", Value.ref a9)] = m := kstB_self (List.forall_mem_cons.mpr ⟨hp _ (by tb_start), List.forall_mem_cons.mpr ⟨hp _ (by tb_start), List.forall_mem_cons.mpr ⟨hp _ (by tb_start), List.forall_mem_cons.mpr ⟨hm, List.forall_mem_nil _⟩⟩⟩⟩)
  have F : Fr h₀ L s.heap (fun z9 => if z9 = Str.ofString "start" then some (Value.int x tx) else if z9 = Str.ofString "end" then some (Value.int y ty) else if z9 = Str.ofString "many" then some (Value.int n tn) else if z9 = Str.ofString "marker" then some (Value.ref a9) else m z9) := by
    show Fr h₀ L s.heap (kstB m [(Str.ofString "start", Value.int x tx), (Str.ofString "end", Value.int y ty), (Str.ofString "many", Value.int n tn), (Str.ofString "marker", Value.ref a9)])
    rw [hk]; exact F0
  have hk' : (fun z9 => if z9 = Str.ofString "start" then some (Value.int x tx) else if z9 = Str.ofString "end" then some (Value.int y ty) else if z9 = Str.ofString "many" then some (Value.int n tn) else if z9 = Str.ofString "marker" then some (Value.ref a9) else m z9) = m := hk
  clear F0 hk
  conv in ifOf _ => whnf
  conv in (occs := *) scOf _ => all_goals whnf
  k_steps
  all_goals rename Fr _ _ _ _ => fE
  all_goals rw [hk'] at fE
  all_goals rename News _ _ _ _ => nE
  all_goals first
    | exact h2 _ _ _ fE (mkD_fold (rep_a (by with_reducible assumption)) nE)
    | exact h2 _ _ _ fE (mkD_fold (rep_b (by with_reducible assumption) (by with_reducible assumption)) nE)
    | exact h2 _ _ _ fE (mkD_same (rep_c (by with_reducible assumption) (by with_reducible assumption)) nE)

theorem mk_replaced (w : World) (M : MkA) (hM : M.ok) (hlo : (M.rows == sysModules) = false) (K : MkS) (ho : RowsIs w M K.o) (x y n : Int) (tx ty tn : Tok) :
    Cal w 397 [.ref M.kk, .int x tx, .int y ty, .int n tn] 4 60 (mkL w.params M K) (X := MkS) (fun r => .none) (fun r => mkL w.params M r) (fun _ r => K.by r (repF x y n)) := by
  have hfill : hd.heap_1 = hd.heap_1 ∧ PySem.Challenge.rw_pq0288_01 = PySem.Challenge.rw_pq0288_01 := by k_fill; exact ⟨rfl, rfl⟩
  clear hfill
  have ho' : K.o.IsDictOf (PySem.intKind PG w) [(0, .ref M.m0), (1, .ref M.m1), (2, .ref M.m2), (3, .ref M.m3)] := ho
  have IFD := fun (Ar : Around) (E : Value → Shared → Prop) (h₀ : Heap) (mean : ExcName → Option Value) (mg mb : Str → Option Value) (q : Str) (L g : Addr) (cd : Value) kX kT => rep_if w (Ar := Ar) (E := E) (h₀ := h₀) (mean := mean) (mg := mg) (mb := mb) q L g cd kX kT x y n tx ty tn
  intro mean mg mb dp un gdd cn csc a ccd cll outer A₀ base h₀ L m s rest Q E B F KX N off T hk hdp hun hret
  dsimp only [mkL] at N off
  k_with "~L11:exec If" => (k_here; rename Fr _ _ _ _ => fE; rename News _ _ _ _ => nE; k_dflt (first | (refine' mk_turn0 (IFD _ _ _ _ _ _ _ _ _ _ (by k_asm) (by k_asm)) hM fE (List.forall_mem_cons.mpr ⟨rfl, List.forall_mem_cons.mpr ⟨rfl, List.forall_mem_cons.mpr ⟨rfl, List.forall_mem_nil _⟩⟩⟩) rfl nE (by with_reducible assumption) (by with_reducible assumption) ?_) | (refine' mk_turn1 (IFD _ _ _ _ _ _ _ _ _ _ (by k_asm) (by k_asm)) hM fE (List.forall_mem_cons.mpr ⟨rfl, List.forall_mem_cons.mpr ⟨rfl, List.forall_mem_cons.mpr ⟨rfl, List.forall_mem_nil _⟩⟩⟩) rfl nE (by with_reducible assumption) (by with_reducible assumption) ?_) | (refine' mk_turn2 (IFD _ _ _ _ _ _ _ _ _ _ (by k_asm) (by k_asm)) hM fE (List.forall_mem_cons.mpr ⟨rfl, List.forall_mem_cons.mpr ⟨rfl, List.forall_mem_cons.mpr ⟨rfl, List.forall_mem_nil _⟩⟩⟩) rfl nE (by with_reducible assumption) (by with_reducible assumption) ?_) | (refine' mk_turn3 (IFD _ _ _ _ _ _ _ _ _ _ (by k_asm) (by k_asm)) hM fE (List.forall_mem_cons.mpr ⟨rfl, List.forall_mem_cons.mpr ⟨rfl, List.forall_mem_cons.mpr ⟨rfl, List.forall_mem_nil _⟩⟩⟩) rfl nE (by with_reducible assumption) (by with_reducible assumption) ?_)); intro t9 h9 tk9 F9 N9; (try dsimp only); (try k_fold))
  refine wpAny_call ?_
  k_dflt k_enter
  k_steps
  rename Fr _ _ _ _ => fE
  rename News _ _ _ _ => nE
  exact Cal.done rest hret ⟨K.k, K.o, K.r0.to (repF x y n K.r0.pos K.r0.adv) _, K.r1.to (repF x y n K.r1.pos K.r1.adv) _, K.r2.to (repF x y n K.r2.pos K.r2.adv) _, K.r3.to (repF x y n K.r3.pos K.r3.adv) _⟩ fE nE (fun p hp => .tail _ hp) ⟨rfl, rfl, ⟨_, rfl⟩, ⟨_, rfl⟩, ⟨_, rfl⟩, ⟨_, rfl⟩⟩

end Mine

end Lay11

section Lay12
open PySem PySem.Spec PySem.Calls PySem.W PyProof.Rows

theorem Mine.lay12 : True := by
  w_top off
  k_with "~L12:ktr_room" => k_extra "~w0"
  k_with "~L12:is_list" => k_extra "~w5"
  k_with "~L12:k_enter" => k_extra "~w52"
  k_with "~L12:top_caught0" => k_extra "~w53"
  k_with "~L12:k_ne" => k_extra "~w54"
  k_with "~L12:l_idx" => k_extra "~w55"
  k_with "~L12:ktr_room" => k_extra "~w2"
  k_with "~L12:ktr_units" => k_extra "~w2"
  k_with "~L12:ktr_room" => k_extra "~w3"
  k_with "~L12:ktr_units" => k_extra "~w4"
  k_with "~L12:k_mem" => k_extra "~w57"
  k_with "~L12:k_inst" => k_extra "~w59"
  k_with "~L12:tlg_ne" => k_extra "~w62"
  k_with "~L12:k_all" => k_extra "~w63"
  k_with "~L12:lcg_off" => k_extra "~w64"
  k_with "~L12:k_lt" => k_extra "~w65"
  k_with "~L12:k_upd" => k_extra "~w66"
  k_with "~L12:k_updF" => k_extra "~w67"
  k_with "~L12:setAttr ref" => k_extra "~w68"
  k_with "~L12:setAttr ref" => k_extra "~w69"
  k_with "~L12:setAttr ref" => k_extra "~w70"
  k_with "~L12:call ref" => k_extra "~w79"
  k_with "~L12:call ref" => k_extra "~w80"
  k_with "~L12:call ref" => k_extra "~w81"
  k_with "~L12:call ref" => k_extra "~w82"
  k_with "~L12:call ref" => k_extra "~w83"
  k_with "~L12:call ref" => k_extra "~w84"
  k_with "~L12:call ref" => k_extra "~w85"
  k_with "~L12:call ref" => k_extra "~w86"
  k_with "~L12:call ref" => k_extra "~w87"
  k_with "~L12:call ref" => k_extra "~w88"
  k_with "~L12:call ref" => k_extra "~w89"
  k_with "~L12:call ref" => k_extra "~w90"
  trivial

namespace Mine

theorem Cal.conv {w : World} {f : Addr} {args : List Value} {dpn unn : Nat} {small : List (Addr × Obj)} {X X' : Type} {val : X → Value} {val' : X' → Value} {led : X → List (Addr × Obj)} {led' : X' → List (Addr × Obj)} {ok : List (Addr × Obj) → X → Prop} {ok' : List (Addr × Obj) → X' → Prop}
    (C : Cal w f args dpn unn small val led ok) (h : ∀ rest x, ok rest x → ∃ x', val x = val' x' ∧ led x = led' x' ∧ ok' rest x') : Cal w f args dpn unn small val' led' ok' :=
  fun mean mg mb dp un gdd cn cs a ccd cll outer A₀ base h₀ L m s rest Q E B F X₀ N off T hk hd hu k =>
    C mean mg mb dp un gdd cn cs a ccd cll outer A₀ base h₀ L m s rest Q E B F X₀ N off T hk hd hu fun x h' tk' o F' N' => by
      obtain ⟨x', e1, e2, o'⟩ := h rest x o
      rw [e1]
      rw [e2] at N'
      exact k x' h' tk' o' F' N'
/-- l the lesser of the two, h the greater -/
def MinMax (x y l h : Int) : Prop := (x ≤ y ∧ l = x ∧ h = y) ∨ (y ≤ x ∧ l = y ∧ h = x)
theorem bf_reachM (w : World) (A : BufA) (hA : A.ok) (B : BufS) (x y : Int) (tx ty : Tok) (l h : Int) (mm : MinMax x y l h) (h1 : B.begv ≤ l) (h2 : h ≤ B.zv) :
    Cal w 62 [.ref A.bx, .int x tx, .int y ty] 4 60 (bufL w.params A B) (X := Addr × Tok × Tok) (fun r => .ref r.1) (fun r => (r.1, pairO l r.2.1 h r.2.2) :: bufL w.params A B) (fun rest r => ∀ p ∈ bufL w.params A B ++ rest, p.1 < r.1) := by
  have e : B.begv ≤ x ∧ x ≤ B.zv ∧ B.begv ≤ y ∧ y ≤ B.zv ∧ min x y = l ∧ max x y = h := by
    rcases mm with ⟨a, rfl, rfl⟩ | ⟨a, rfl, rfl⟩
    · exact ⟨h1, Int.le_trans a h2, Int.le_trans h1 a, h2, Int.min_eq_left a, Int.max_eq_right a⟩
    · exact ⟨Int.le_trans h1 a, h2, h1, Int.le_trans a h2, Int.min_eq_right a, Int.max_eq_left a⟩
  obtain ⟨e1, e2, e3, e4, e5, e6⟩ := e
  refine (bf_reached w A hA B x y tx ty e1 e2 e3 e4).conv fun rest r o => ⟨(r.1, r.2.2.1, r.2.2.2.2), rfl, ?_, o.2.2⟩
  obtain ⟨r1, r2, r3, r4, r5⟩ := r
  obtain ⟨o1, o2, _⟩ := o
  dsimp only at o1 o2
  rw [e5] at o1
  rw [e6] at o2
  subst o1 o2
  rfl
/-- an edit of the stretch l..h: 'mid' comes for what stood there -/
def Edit (l h : Int) (mid : List Int) (B B' : BufS) (K K' : MkS) : Prop :=
  B'.begv = B.begv ∧ B'.zv = B.zv + ((mid.length : Int) - (h - l)) ∧ ∃ f g, Mv l h ((mid.length : Int) - (h - l)) f g ∧ K.by K' f ∧ B'.point = g B.point
theorem by_id (K : MkS) {f : Int → Bool → Int} (h : ∀ p a, f p a = p) : K.by K f := by
  obtain ⟨k, o, r0, r1, r2, r3⟩ := K
  refine ⟨rfl, rfl, ⟨r0.t2, ?_⟩, ⟨r1.t2, ?_⟩, ⟨r2.t2, ?_⟩, ⟨r3.t2, ?_⟩⟩ <;> (rw [h]; rfl)
theorem edit_id {l h : Int} {mid : List Int} {B : BufS} {K : MkS} (e : (mid.length : Int) - (h - l) = 0) : Edit l h mid B B K K :=
  ⟨rfl, by rw [e, Int.add_zero], _, _, by rw [e]; exact mv_id l h, by_id K fun _ _ => rfl, rfl⟩
theorem edit_del {l h : Int} {B B' : BufS} {K K' : MkS} (hlh : l ≤ h) (hb : B'.begv = B.begv) (hz : B'.zv = B.zv - (h - l)) (hp : B'.point = pOut l h B.point) (hk : K.by K' (delF l h)) : Edit l h [] B B' K K' := by
  have e : (([] : List Int).length : Int) - (h - l) = -(h - l) := by rw [List.length_nil]; omega
  exact ⟨hb, by rw [e]; omega, _, _, by rw [e]; exact mv_del hlh, hk, hp⟩
theorem edit_ins {l : Int} {ms : List Int} {b : Bool} {B B' : BufS} {K K' : MkS} (hb : B'.begv = B.begv) (hz : B'.zv = B.zv + ms.length) (hp : B'.point = pIn l ms.length B.point) (hk : K.by K' (insF l (l + ms.length) b)) : Edit l l ms B B' K K' := by
  have e : (ms.length : Int) - (l - l) = ms.length := by omega
  exact ⟨hb, by rw [e]; exact hz, _, _, by rw [e]; exact mv_ins (Int.natCast_nonneg _) b, hk, hp⟩
theorem edit_rep {l h : Int} {ms : List Int} {B B' : BufS} {K K' : MkS} (hlh : l < h) (hb : B'.begv = B.begv) (hz : B'.zv = B.zv + ((ms.length : Int) - (h - l))) (hp : B'.point = repP l h ms.length B.point) (hk : K.by K' (repF l h ms.length)) : Edit l h ms B B' K K' :=
  ⟨hb, hz, _, _, mv_rep hlh (Int.natCast_nonneg _), hk, hp⟩
theorem gap_id {S : GapS} {t : List Int} {n : Nat} {l : Int} (T : GapT S t n) : GapT S (t.take (l - 1).toNat ++ [] ++ t.drop (l - 1).toNat) n := by
  rw [List.append_nil, List.take_append_drop]; exact T
theorem gap_del {S : GapS} {a b : List Int} {n : Nat} (T : GapT S (a ++ b) n) : GapT S (a ++ [] ++ b) n := by
  rw [List.append_nil]; exact T
theorem GapT.mono {S : GapS} {t : List Int} {n k : Nat} (T : GapT S t n) (h : n ≤ k) : GapT S t k := by
  obtain ⟨cs, G, e1, e2⟩ := T
  exact ⟨cs, G, e1, Nat.le_trans e2 h⟩
theorem gap_two {S : GapS} {t ms : List Int} {n a b : Nat} (h : a ≤ t.length) (T : GapT S ((t.take a ++ t.drop b).take a ++ ms ++ (t.take a ++ t.drop b).drop a) n) : GapT S (t.take a ++ ms ++ t.drop b) n := by
  have h' : (t.take a).length = a := List.length_take_of_le h
  rw [List.take_left' h', List.drop_left' h'] at T
  exact T
theorem put_nil {S : GapS} {t ms : List Int} {n : Nat} (a : Nat) (T : GapT S t n) (h : (ms.length : Int) = 0) : GapT S (t.take a ++ ms ++ t.drop a) (n + 42) := by
  have e : ms = [] := List.eq_nil_of_length_eq_zero (by omega)
  obtain ⟨cs, G, e1, e2⟩ := T
  subst e
  exact ⟨cs, G, by rw [List.append_nil, List.take_append_drop]; exact e1, by omega⟩
theorem ins_id {x y : Int} {b : Bool} (h : y = x) (p : Int) (a : Bool) : insF x y b p a = p := by
  unfold insF
  split <;> omega

end Mine

end Lay12

section Lay13
open PySem PySem.Spec PySem.Calls PySem.W PyProof.Rows

theorem Mine.lay13 : True := by
  w_top off
  k_with "~L13:ktr_room" => k_extra "~w0"
  k_with "~L13:is_list" => k_extra "~w5"
  k_with "~L13:k_enter" => k_extra "~w52"
  k_with "~L13:top_caught0" => k_extra "~w53"
  k_with "~L13:k_ne" => k_extra "~w54"
  k_with "~L13:l_idx" => k_extra "~w55"
  k_with "~L13:ktr_room" => k_extra "~w2"
  k_with "~L13:ktr_units" => k_extra "~w2"
  k_with "~L13:ktr_room" => k_extra "~w3"
  k_with "~L13:ktr_units" => k_extra "~w4"
  k_with "~L13:k_mem" => k_extra "~w57"
  k_with "~L13:k_inst" => k_extra "~w59"
  k_with "~L13:tlg_ne" => k_extra "~w62"
  k_with "~L13:k_all" => k_extra "~w63"
  k_with "~L13:lcg_off" => k_extra "~w64"
  k_with "~L13:k_lt" => k_extra "~w65"
  k_with "~L13:k_upd" => k_extra "~w66"
  k_with "~L13:k_updF" => k_extra "~w67"
  k_with "~L13:setAttr ref" => k_extra "~w68"
  k_with "~L13:setAttr ref" => k_extra "~w69"
  k_with "~L13:setAttr ref" => k_extra "~w70"
  trivial

namespace Mine

/-- the end of an __init__ that was called through its class -/
theorem Cal.doneI {h₀ g h' : Heap} {L L' a : Addr} {m m' : Str → Option Value} {s : Shared} {tk' : Nat} (rest : List (Addr × Obj)) {news' : List (Addr × Obj)} {X : Type} {val : X → Value} {led : X → List (Addr × Obj)} {ok : X → Prop} {Q E : Value → Shared → Prop}
    (hret : ∀ (x : X) (h' : Heap) (tk' : Nat), ok x → Fr h₀ L h' m → News h₀ L h' (led x ++ rest) → Q (val x) { s with heap := h', toks := tk' }) (x : X) (hv : val x = .ref a)
    (F' : Fr g L' h' m') (N' : News g L' h' news') (hs : Sub (led x) news') (hok : ok x) :
    LeaveF h₀ L m g rest (InitBack a fun r s' => match r with | .ok (.ret v) => Q v s' | .ok _ => False | .error e => E e s') .none { s with heap := h', toks := tk' } :=
  leaveF_ (s' := { s with heap := h', toks := tk' }) F' (News.sub N' hs) fun kF kN _ => ⟨rfl, hv ▸ hret x h' tk' hok kF kN⟩
theorem off_two {x dx : Addr} {o p : Obj} {rest : List (Addr × Obj)} (l1 : ∀ p ∈ rest, p.1 < dx) (l2 : dx < x) : Off [(x, o), (dx, p)] rest := fun q hq r hr e => by
  have h := l1 r hr
  rcases List.mem_cons.mp hq with rfl | hq
  · exact Nat.lt_irrefl _ (Nat.lt_trans (Nat.lt_of_le_of_lt (Nat.le_of_eq e) h) l2)
  · rcases List.mem_singleton.mp hq with rfl
    exact Nat.lt_irrefl _ (Nat.lt_of_le_of_lt (Nat.le_of_eq e) h)

theorem gt_new {S : GapS} {cs : List Int} {room : Int} (hI : IntsAre S.vs cs) (e1 : S.gs = 0) (e2 : S.ge = room) (e3 : S.room = room) (hl : cs.length = room.toNat) (h0 : 0 ≤ room) (h2 : room ≤ 2) : GapT S [] 2 := by
  refine ⟨cs, ⟨hI, by omega, by omega, by omega, by omega, by omega, by omega⟩, ?_, by omega⟩
  unfold txt
  rw [e1, e2, List.drop_eq_nil_of_le (by omega)]
  rfl

theorem lw_marker (w : World) (n : Int) (tn : Tok) (b : Bool) :
    Cal w 332 [.int n tn, .bool b] 6 60 [] (X := Addr × Addr × MkR) (fun r => .ref r.1) (fun r => [(r.1, instObj 332 r.2.1), (r.2.1, dictOf (mkD w.params r.2.2) 4)])
      (fun rest r => (∀ p ∈ rest, p.1 < r.2.1) ∧ @LT.lt Nat _ r.2.1 r.1 ∧ r.2.2.num = n ∧ r.2.2.adv = b ∧ r.2.2.pos = 0 ∧ r.2.2.buf = .none) := by
  have hfill : hd.heap_1 = hd.heap_1 ∧ PySem.Challenge.rw_pq0288_01 = PySem.Challenge.rw_pq0288_01 := by k_fill; exact ⟨rfl, rfl⟩
  clear hfill
  intro mean mg mb dp un gdd cn csc a ccd cll outer A₀ base h₀ L m s rest Q E B' F KX N off T hk hdp hun hret
  replace N : News h₀ L s.heap rest := N
  k_dflt (refine' call_cls F KX N ?k4 ?k5 ?k6 ?_; (case k4 => k_is); (case k5 => k_is); (case k6 => k_is); intro x dx h1 F1 N1 l1 l2)
  have N2 : News h₀ L h1 ([(x, instObj 332 dx), (dx, dictOf [] 0)] ++ rest) := N1
  have off2 : Off [(x, instObj 332 dx), (dx, dictOf [] 0)] rest := off_two l1 l2
  clear N1 N F
  have l3 : @LT.lt Nat _ dx x := l2
  k_dflt k_enter
  k_steps
  all_goals rename Fr _ _ _ _ => fE
  all_goals rename News _ _ _ _ => nE
  exact Cal.doneI rest hret (x, dx, ⟨_, _, _, _, n, tn, b, .none, 0, _⟩) rfl fE nE (by dsimp only [mkD]; nest_cls) ⟨l1, l3, rfl, rfl, rfl, rfl⟩

theorem Cut.nil (r : List (Addr × Obj)) : Cut [] r r := .app [] r
theorem lw_markers (w : World) :
    Cal w 400 [] 6 60 [] (X := MkA × Tok × Obj) (fun r => .ref r.1.kk) (fun r => rowsL w.params r.1 r.2.1 r.2.2)
      (fun rest r => (∀ p ∈ rest, p.1 < r.1.kd) ∧ @LT.lt Nat _ r.1.kd r.1.kk ∧ @LT.lt Nat _ r.1.kk r.1.rows ∧ r.2.2.IsDictOf (PySem.intKind PG w) []) := by
  have hfill : hd.heap_1 = hd.heap_1 ∧ PySem.Challenge.rw_pq0288_01 = PySem.Challenge.rw_pq0288_01 := by k_fill; exact ⟨rfl, rfl⟩
  clear hfill
  intro mean mg mb dp un gdd cn csc a ccd cll outer A₀ base h₀ L m s rest Q E B' F KX N off T hk hdp hun hret
  replace N : News h₀ L s.heap rest := N
  k_dflt (refine' call_cls F KX N ?k4 ?k5 ?k6 ?_; (case k4 => k_is); (case k5 => k_is); (case k6 => k_is); intro x dx h1 F1 N1 l1 l2)
  have N2 : News h₀ L h1 ([(x, instObj 400 dx), (dx, dictOf [] 0)] ++ rest) := N1
  have off2 : Off [(x, instObj 400 dx), (dx, dictOf [] 0)] rest := off_two l1 l2
  clear N1 N F
  have l3 : @LT.lt Nat _ dx x := l2
  k_dflt k_enter
  k_steps
  all_goals rename Fr _ _ _ _ => fE
  all_goals rename News _ _ _ _ => nE
  rename Obj.IsDictOf (intKind PG w) _ [] => hi
  rename _ ∧ _ => lE
  exact Cal.doneI rest hret (⟨x, dx, _, 0, 0, 0, 0, 0, 0, 0, 0⟩, _, _) rfl fE nE (by dsimp only [rowsL]; nest_cls) ⟨l1, l3, lE.1, hi⟩

theorem lw_gaptext (w : World) (e : Addr) (k : Nat) (room : Int) (t : Tok) (h0 : 0 ≤ room) (h2 : room ≤ 2) :
    Cal w 255 [.ref e, .int room t] 6 60 [(e, listOf #[] k)] (X := GapA × GapS) (fun r => .ref r.1.gt) (fun r => [(e, listOf #[] k)] ++ gapL w.params r.1 r.2)
      (fun rest r => (∀ p ∈ rest, p.1 < r.1.gd) ∧ @LT.lt Nat _ r.1.gd r.1.gt ∧ @LT.lt Nat _ r.1.gt r.1.cl ∧ @LT.lt Nat _ e r.1.gd ∧ GapT r.2 [] 2) := by
  have hfill : hd.heap_1 = hd.heap_1 ∧ PySem.Challenge.rw_pq0288_01 = PySem.Challenge.rw_pq0288_01 := by k_fill; exact ⟨rfl, rfl⟩
  clear hfill
  intro mean mg mb dp un gdd cn csc a ccd cll outer A₀ base h₀ L m s rest Q E B' F KX N off T hk hdp hun hret
  k_dflt (refine' call_cls F KX N ?k4 ?k5 ?k6 ?_; (case k4 => k_is); (case k5 => k_is); (case k6 => k_is); intro x dx h1 F1 N1 l1 l2)
  have N2 : News h₀ L h1 ([(x, instObj 255 dx), (dx, dictOf [] 0), (e, listOf #[] k)] ++ rest) := N1
  have l4 : @LT.lt Nat _ e dx := l1 (e, listOf #[] k) List.mem_cons_self
  have l5 : ∀ p ∈ rest, p.1 < dx := fun p hp => l1 p (List.mem_append_right _ hp)
  have off2 : Off [(x, instObj 255 dx), (dx, dictOf [] 0), (e, listOf #[] k)] rest := off_appL (a := [(x, instObj 255 dx), (dx, dictOf [] 0)]) (off_two l5 l2) off
  clear N1 N F
  have l3 : @LT.lt Nat _ dx x := l2
  k_dflt k_enter
  k_steps
  all_goals rename Fr _ _ _ _ => fE
  all_goals rename News _ _ _ _ => nE
  rename IntsAre _ (_ ++ _) => hi
  rename _ ∧ _ ∧ _ ∧ _ ∧ _ ∧ _ => lE
  exact Cal.doneI rest hret (⟨x, dx, _⟩, ⟨_, _, _, _, _, _, _, _, _, _, _, _⟩) rfl fE nE (by dsimp only [gapL, gapD]; nest_cls) ⟨l5, l3, lE.2.2.2.1, l4, gt_new hi rfl (Int.zero_add _) rfl (by simp) h0 h2⟩

theorem units_ofI {un c k n : Nat} (h : un + n < cLine) (e : Nat.ble (c + 3 + k) n = true) : un + c + 3 + k < cLine := by
  have := Nat.le_of_ble_eq_true e
  omega

section
variable {P : Params} {A : BufA} {B : BufS} {S : GapS} {k : Tok} {o : Obj} {D : Addr} {l : List (Addr × Obj)}
theorem off_br (h : A.ok) : Off (bufL P A B) (rowsL P A.M k o) := off_grp h [1, 0, 8] [6, 5, 7] rfl rfl rfl
theorem off_rb (h : A.ok) : Off (rowsL P A.M k o) (bufL P A B) := off_grp h [6, 5, 7] [1, 0, 8] rfl rfl rfl
theorem off_gr (h : A.ok) : Off (gapL P A.G S) (rowsL P A.M k o) := off_grp h [3, 2, 4] [6, 5, 7] rfl rfl rfl
theorem off_rg (h : A.ok) : Off (rowsL P A.M k o) (gapL P A.G S) := off_grp h [6, 5, 7] [3, 2, 4] rfl rfl rfl
theorem ni_rows (h : NotIn A D) : ∀ p ∈ rowsL P A.M k o, p.1 ≠ D := h.off [6, 5, 7] rfl rfl
theorem lo_rows (h : A.ok) (hD : @LT.lt Nat _ A.ls D) : ∀ p ∈ rowsL P A.M k o, p.1 ≠ D := lo_idx h hD [6, 5, 7] rfl rfl
theorem seg_kkr {M : MkA} (h : Sub (rowsL P M k o) l) : (M.kk, instObj 400 M.kd) ∈ l := h _ (.head _)
theorem seg_kdr {M : MkA} (h : Sub (rowsL P M k o) l) : (M.kd, dictOf [⟨PyData.keyHash P (Str.ofString "rows"), .str (Str.ofString "rows") k, .ref M.rows⟩] 1) ∈ l := h _ (.tail _ (.head _))
end

end Mine

end Lay13

section Lay14
open PySem PySem.Spec PySem.Calls PySem.W PyProof.Rows

theorem Mine.lay14 : True := by
  w_top off
  k_with "~L14:ktr_room" => k_extra "~w0"
  k_with "~L14:is_list" => k_extra "~w5"
  k_with "~L14:k_enter" => k_extra "~w52"
  k_with "~L14:top_caught0" => k_extra "~w53"
  k_with "~L14:k_ne" => k_extra "~w54"
  k_with "~L14:l_idx" => k_extra "~w55"
  k_with "~L14:ktr_room" => k_extra "~w2"
  k_with "~L14:ktr_units" => k_extra "~w2"
  k_with "~L14:ktr_room" => k_extra "~w3"
  k_with "~L14:ktr_units" => k_extra "~w4"
  k_with "~L14:k_mem" => k_extra "~w57"
  k_with "~L14:k_inst" => k_extra "~w59"
  k_with "~L14:tlg_ne" => k_extra "~w62"
  k_with "~L14:k_all" => k_extra "~w63"
  k_with "~L14:lcg_off" => k_extra "~w64"
  k_with "~L14:k_lt" => k_extra "~w65"
  k_with "~L14:k_upd" => k_extra "~w66"
  k_with "~L14:k_updF" => k_extra "~w67"
  k_with "~L14:setAttr ref" => k_extra "~w68"
  k_with "~L14:setAttr ref" => k_extra "~w69"
  k_with "~L14:setAttr ref" => k_extra "~w70"
  k_with "~L14:lcg_off" => k_extra "~w91"
  k_with "~L14:tlg_ne" => k_extra "~w92"
  k_with "~L14:k_inst" => k_extra "~w93"
  k_with "~L14:call ref" => k_extra "~w94"
  k_with "~L14:call ref" => k_extra "~w95"
  trivial

namespace Mine

theorem clamp_id {p l : Int} (h1 : 1 ≤ p) (h2 : p ≤ l) : (if l < (if 1 > p then 1 else p) then l else (if 1 > p then 1 else p)) = p := by
  rw [if_neg (show ¬ 1 > p by omega), if_neg (by omega)]

theorem lw_setm (w : World) (A : BufA) (hA : A.ok) (B : BufS) (S : GapS) (t : List Int) (n : Nat) (GT : GapT S t n) (k : Tok) (o : Obj) (kvs : List (Int × Value)) (ho : o.IsDictOf (PySem.intKind PG w) kvs) (hk : kvs.length ≤ 4) (m d : Addr) (k1 k2 k3 k4 t1 t2 : Tok) (num pos : Int) (adv : Bool) (p : Int) (tp : Tok) (hd1 : @LT.lt Nat _ A.ls d) (hd2 : @LT.lt Nat _ d m) (hp1 : 1 ≤ p) (hp2 : p ≤ t.length + 1) :
    Cal w 529 [.ref m, .ref A.bx, .int p tp] 14 140 ((m, instObj 332 d) :: (d, dictOf (mkD w.params ⟨k1, k2, k3, k4, num, t1, adv, .none, pos, t2⟩) 4) :: (bufL w.params A B ++ gapL w.params A.G S ++ rowsL w.params A.M k o)) (X := MkR × Obj) (fun _ => .none) (fun x => (m, instObj 332 d) :: (d, dictOf (mkD w.params x.1) 4) :: (bufL w.params A B ++ gapL w.params A.G S ++ rowsL w.params A.M k x.2)) (fun _ x => x.1.num = num ∧ x.1.adv = adv ∧ x.1.pos = p ∧ x.2.IsDictOf (PySem.intKind PG w) (stored kvs num (.ref m))) := by
  have hfill : hd.heap_1 = hd.heap_1 ∧ PySem.Challenge.rw_pq0288_01 = PySem.Challenge.rw_pq0288_01 := by k_fill; exact ⟨rfl, rfl⟩
  clear hfill
  have lo := hA.low
  have q1 : @LT.lt Nat _ A.M.kd A.M.kk := hA.lt 5 6 rfl rfl rfl
  have q2 : @LT.lt Nat _ A.M.kk A.M.rows := hA.lt 6 7 rfl rfl rfl
  have q3 : @LT.lt Nat _ A.M.rows d := Nat.lt_trans (hA.lt 7 8 rfl rfl rfl) hd1
  have q4 : @LT.lt Nat _ A.ls m := Nat.lt_trans hd1 hd2
  clear lo
  intro mean mg mb dp un gdd cn csc a ccd cll outer A₀ base h₀ L m' s rest Q E B' F KX N off T hk' hdp hun hret
  refine wpAny_call ?_
  k_dflt k_enter
  k_steps
  all_goals (try dsimp only)
  all_goals rename Fr _ _ _ _ => fE
  all_goals rename News _ _ _ _ => nE
  rename MkR.pos _ = _ => hx
  refine Cal.done rest hret (_, _) fE nE (by (try dsimp only); nest_cls) ⟨?_, ?_, ?_, ?_⟩
  · assumption
  · assumption
  · rw [hx]; exact clamp_id hp1 hp2
  · assumption

end Mine

end Lay14

section Lay15
open PySem PySem.Spec PySem.Calls PySem.W PyProof.Rows

theorem Mine.lay15 : True := by
  w_top off
  k_with "~L15:ktr_room" => k_extra "~w0"
  k_with "~L15:k_ne" => k_extra "~w1"
  k_with "~L15:ktr_room" => k_extra "~w2"
  k_with "~L15:ktr_units" => k_extra "~w2"
  k_with "~L15:ktr_room" => k_extra "~w3"
  k_with "~L15:ktr_units" => k_extra "~w4"
  k_with "~L15:is_list" => k_extra "~w5"
  k_with "~L15:k_enter" => k_extra "~w6"
  k_with "~L15:k_subL" => k_extra "~w7"
  k_with "~L15:setItem ref ref" => k_extra "~w8"
  k_with "~L15:k_clsL" => k_extra "~w9"
  k_with "~L15:k_offL" => k_extra "~w10"
  k_with "~L15:call ref" => k_extra "~w11"
  k_with "~L15:call ref" => k_extra "~w12"
  k_with "~L15:call ref" => k_extra "~w13"
  k_with "~L15:call ref" => k_extra "~w14"
  k_with "~L15:call builtin:sorted" => k_extra "~w15"
  k_with "~L15:call ref" => k_extra "~w16"
  trivial

namespace Mine

theorem ints_none {vs : List Value} (h : IntsAre vs []) : vs = [] := by cases h; rfl
theorem mk_numbers0 (w : World) (M : MkA) (k : Tok) (o : Obj) (ho : o.IsDictOf (PySem.intKind PG w) []) (hlo : (M.rows == sysModules) = false) :
    Cal w 355 [.ref M.kk] 1 20 (rowsL w.params M k o) (X := Addr × Nat) (fun r => .ref r.1) (fun r => (r.1, listOf #[] r.2) :: rowsL w.params M k o) (fun rest r => ∀ p ∈ rowsL w.params M k o ++ rest, p.1 < r.1) := by
  have hfill : hd.heap_1 = hd.heap_1 ∧ PySem.Challenge.rw_pq0288_01 = PySem.Challenge.rw_pq0288_01 := by k_fill; exact ⟨rfl, rfl⟩
  clear hfill
  intro mean mg mb dp un gdd cn csc a ccd cll outer A₀ base h₀ L m s rest Q E B F KX N off T hk hdp hun hret
  refine wpAny_call ?_
  dsimp only [rowsL, List.cons_append, List.nil_append] at N
  k_dflt cell_enter
  k_steps
  rename Fr _ _ _ _ => fE
  rename News _ _ _ _ => nE
  rename IntsAre _ _ => iE
  rename List.length _ = 0 => eE
  obtain rfl := List.eq_nil_of_length_eq_zero eE
  obtain rfl := ints_none iE
  refine hret (_, _) _ _ (fun p hp => ?_) fE nE
  rename _ ∧ _ ∧ _ ∧ AllLt _ _ => lE
  rcases hp with _ | ⟨_, hp⟩
  · exact lE.1
  rcases hp with _ | ⟨_, hp⟩
  · exact lE.2.1
  rcases hp with _ | ⟨_, hp⟩
  · exact lE.2.2.1
  exact allLt_at lE.2.2.2 p hp

theorem lay15_Mk5_1 : True := by
  k_with "~L15:call ref" => k_extra "~w96"
  trivial

theorem mk_inserted0 (w : World) (M : MkA) (hM : M.ok) (hlo : (M.rows == sysModules) = false) (kt : Tok) (o : Obj) (ho : o.IsDictOf (PySem.intKind PG w) []) (x y : Int) (tx ty : Tok) (b : Bool) :
    Cal w 383 [.ref M.kk, .int x tx, .int y ty, .bool b] 4 60 (rowsL w.params M kt o) (X := Unit) (fun r => .none) (fun r => rowsL w.params M kt o) (fun _ r => True) := by
  have hfill : hd.heap_1 = hd.heap_1 ∧ PySem.Challenge.rw_pq0288_01 = PySem.Challenge.rw_pq0288_01 := by k_fill; exact ⟨rfl, rfl⟩
  clear hfill
  obtain ⟨a1, a2, a3, a4, a5, a6, a7, a8, a9, a10⟩ := hM
  intro mean mg mb dp un gdd cn csc a ccd cll outer A₀ base h₀ L m s rest Q E B F KX N off T hk hdp hun hret
  refine wpAny_call ?_
  k_dflt k_enter
  k_steps
  rename Fr _ _ _ _ => fE
  rename News _ _ _ _ => nE
  exact Cal.done rest hret () fE nE (Sub.skip (Sub.refl _)) trivial

end Mine

end Lay15

section Lay16
open PySem PySem.Spec PySem.Calls PySem.W PyProof.Rows

theorem Mine.lay16 : True := by
  w_top off
  k_with "~L16:ktr_room" => k_extra "~w0"
  k_with "~L16:is_list" => k_extra "~w5"
  k_with "~L16:k_enter" => k_extra "~w52"
  k_with "~L16:top_caught0" => k_extra "~w53"
  k_with "~L16:k_ne" => k_extra "~w54"
  k_with "~L16:l_idx" => k_extra "~w55"
  k_with "~L16:ktr_room" => k_extra "~w2"
  k_with "~L16:ktr_units" => k_extra "~w2"
  k_with "~L16:ktr_room" => k_extra "~w3"
  k_with "~L16:ktr_units" => k_extra "~w4"
  k_with "~L16:k_mem" => k_extra "~w57"
  k_with "~L16:k_inst" => k_extra "~w59"
  k_with "~L16:tlg_ne" => k_extra "~w62"
  k_with "~L16:k_all" => k_extra "~w63"
  k_with "~L16:lcg_off" => k_extra "~w64"
  k_with "~L16:k_lt" => k_extra "~w65"
  k_with "~L16:k_upd" => k_extra "~w66"
  k_with "~L16:k_updF" => k_extra "~w67"
  k_with "~L16:setAttr ref" => k_extra "~w68"
  k_with "~L16:setAttr ref" => k_extra "~w69"
  k_with "~L16:setAttr ref" => k_extra "~w70"
  k_with "~L16:lcg_off" => k_extra "~w91"
  k_with "~L16:tlg_ne" => k_extra "~w92"
  k_with "~L16:k_inst" => k_extra "~w93"
  k_with "~L16:call ref" => k_extra "~w79"
  k_with "~L16:call ref" => k_extra "~w80"
  k_with "~L16:call ref" => k_extra "~w81"
  k_with "~L16:call ref" => k_extra "~w82"
  k_with "~L16:call ref" => k_extra "~w83"
  k_with "~L16:call ref" => k_extra "~w84"
  k_with "~L16:call ref" => k_extra "~w85"
  k_with "~L16:call ref" => k_extra "~w86"
  k_with "~L16:call ref" => k_extra "~w87"
  k_with "~L16:call ref" => k_extra "~w88"
  k_with "~L16:call ref" => k_extra "~w89"
  k_with "~L16:call ref" => k_extra "~w90"
  k_with "~L16:call ref" => k_extra "~w97"
  trivial

namespace Mine

theorem bf_putin0 (w : World) (A : BufA) (hA : A.ok) (B : BufS) (S : GapS) (t : List Int) (n : Nat) (GT : GapT S t n) (kt : Tok) (o : Obj) (ho : o.IsDictOf (PySem.intKind PG w) []) (x : Int) (tx : Tok) (c : Addr) (vs : List Value) (ms : List Int) (k : Nat) (hv : IntsAre vs ms) (h0 : 1 ≤ B.begv) (h1 : B.begv ≤ x) (h2 : x ≤ B.zv) (h3 : B.zv ≤ t.length + 1) (h4 : n ≤ 900) (h5 : ms.length ≤ 40) (hc : NotIn A c) (hlen : 1 ≤ (ms.length : Int)) :
    Cal w 111 [.ref A.bx, .int x tx, .ref c, .bool false, .bool true] 12 120 (bufL w.params A B ++ gapL w.params A.G S ++ [(c, listOf vs.toArray k)] ++ rowsL w.params A.M kt o) (X := BufS × GapS) (fun _ => .none) (fun r => bufL w.params A r.1 ++ gapL w.params A.G r.2 ++ [(c, listOf vs.toArray k)] ++ rowsL w.params A.M kt o) (fun _ r => r.1.begv = B.begv ∧ r.1.zv = B.zv + ms.length ∧ r.1.point = x + ms.length ∧ GapT r.2 (t.take (x - 1).toNat ++ ms ++ t.drop (x - 1).toNat) (n + 42)) := by
  have hfill : hd.heap_1 = hd.heap_1 ∧ PySem.Challenge.rw_pq0288_01 = PySem.Challenge.rw_pq0288_01 := by k_fill; exact ⟨rfl, rfl⟩
  clear hfill
  intro mean mg mb dp un gdd cn csc a ccd cll outer A₀ base h₀ L m s rest Q E B' F KX N off T hk hdp hun hret
  refine wpAny_call ?_
  k_dflt k_enter
  k_steps
  all_goals (try dsimp only)
  all_goals rename Fr _ _ _ _ => fE
  all_goals rename News _ _ _ _ => nE
  · omega
  · rename GapT _ (_ ++ ms ++ _) _ => gE
    refine Cal.done rest hret (_, _) fE nE (by (try dsimp only); nest_cls) ⟨?_, ?_, ?_, ?_⟩
    · (try dsimp only); omega
    · (try dsimp only); omega
    · (try dsimp only); omega
    · exact gE

theorem lay16_I3_1 : True := by
  k_with "~L16:call ref" => k_extra "~w98"
  trivial

theorem bf_insert0 (w : World) (A : BufA) (hA : A.ok) (B : BufS) (S : GapS) (t : List Int) (n : Nat) (GT : GapT S t n) (kt : Tok) (o : Obj) (ho : o.IsDictOf (PySem.intKind PG w) []) (c : Addr) (vs : List Value) (ms : List Int) (k : Nat) (hv : IntsAre vs ms) (h0 : 1 ≤ B.begv) (h1 : B.begv ≤ B.point) (h2 : B.point ≤ B.zv) (h3 : B.zv ≤ t.length + 1) (h4 : n ≤ 900) (h5 : ms.length ≤ 40) (hc : NotIn A c) (hlen : 1 ≤ (ms.length : Int)) :
    Cal w 127 [.ref A.bx, .ref c] 14 140 (bufL w.params A B ++ gapL w.params A.G S ++ [(c, listOf vs.toArray k)] ++ rowsL w.params A.M kt o) (X := BufS × GapS) (fun _ => .none) (fun r => bufL w.params A r.1 ++ gapL w.params A.G r.2 ++ [(c, listOf vs.toArray k)] ++ rowsL w.params A.M kt o) (fun _ r => r.1.begv = B.begv ∧ r.1.zv = B.zv + ms.length ∧ r.1.point = B.point + ms.length ∧ GapT r.2 (t.take (B.point - 1).toNat ++ ms ++ t.drop (B.point - 1).toNat) (n + 42)) := by
  have hfill : hd.heap_1 = hd.heap_1 ∧ PySem.Challenge.rw_pq0288_01 = PySem.Challenge.rw_pq0288_01 := by k_fill; exact ⟨rfl, rfl⟩
  clear hfill
  intro mean mg mb dp un gdd cn csc a ccd cll outer A₀ base h₀ L m s rest Q E B' F KX N off T hk hdp hun hret
  refine wpAny_call ?_
  k_dflt k_enter
  k_steps
  all_goals (try dsimp only)
  rename Fr _ _ _ _ => fE
  rename News _ _ _ _ => nE
  rename GapT _ (_ ++ ms ++ _) _ => gE
  rename BufS.begv _ = _ => hb
  rename BufS.zv _ = _ => hz
  rename BufS.point _ = _ => hp
  exact Cal.done rest hret (_, _) fE nE (by (try dsimp only); nest_cls) ⟨hb, hz, hp, gE⟩

end Mine

end Lay16

section Lay17
open PySem PySem.Spec PySem.Calls PySem.W PyProof.Rows

theorem Mine.lay17 : True := by
  w_top off
  k_with "~L17:ktr_room" => k_extra "~w0"
  k_with "~L17:is_list" => k_extra "~w5"
  k_with "~L17:k_enter" => k_extra "~w52"
  k_with "~L17:top_caught0" => k_extra "~w53"
  k_with "~L17:k_ne" => k_extra "~w54"
  k_with "~L17:l_idx" => k_extra "~w55"
  k_with "~L17:ktr_room" => k_extra "~w2"
  k_with "~L17:ktr_units" => k_extra "~w2"
  k_with "~L17:ktr_room" => k_extra "~w3"
  k_with "~L17:ktr_units" => k_extra "~w4"
  k_with "~L17:k_mem" => k_extra "~w57"
  k_with "~L17:k_inst" => k_extra "~w59"
  k_with "~L17:tlg_ne" => k_extra "~w62"
  k_with "~L17:k_all" => k_extra "~w63"
  k_with "~L17:lcg_off" => k_extra "~w64"
  k_with "~L17:k_lt" => k_extra "~w65"
  k_with "~L17:k_upd" => k_extra "~w66"
  k_with "~L17:k_updF" => k_extra "~w67"
  k_with "~L17:setAttr ref" => k_extra "~w68"
  k_with "~L17:setAttr ref" => k_extra "~w69"
  k_with "~L17:setAttr ref" => k_extra "~w70"
  k_with "~L17:ktr_units" => k_extra "~w99"
  k_with "~L17:call ref" => k_extra "~w100"
  k_with "~L17:call ref" => k_extra "~w101"
  trivial

namespace Mine

theorem lw_buffer (w : World) (v1 v2 : Value) (room : Int) (t : Tok) (h0 : 0 ≤ room) (h2 : room ≤ 2) :
    Cal w 506 [v1, v2, .int room t] 12 120 [] (X := BufA × BufS × GapS × Tok × Obj) (fun r => .ref r.1.bx) (fun r => bufL w.params r.1 r.2.1 ++ gapL w.params r.1.G r.2.2.1 ++ rowsL w.params r.1.M r.2.2.2.1 r.2.2.2.2)
      (fun rest r => (∀ p ∈ rest, p.1 < r.1.dx) ∧ (@LT.lt Nat _ r.1.dx r.1.bx ∧ @LT.lt Nat _ r.1.bx r.1.G.gd ∧ @LT.lt Nat _ r.1.G.gd r.1.G.gt ∧ @LT.lt Nat _ r.1.G.gt r.1.G.cl ∧ @LT.lt Nat _ r.1.G.cl r.1.M.kd ∧ @LT.lt Nat _ r.1.M.kd r.1.M.kk ∧ @LT.lt Nat _ r.1.M.kk r.1.M.rows ∧ @LT.lt Nat _ r.1.M.rows r.1.ls) ∧ GapT r.2.2.1 [] 2 ∧ r.2.2.2.2.IsDictOf (PySem.intKind PG w) [] ∧ r.2.1.point = 1 ∧ r.2.1.begv = 1 ∧ r.2.1.zv = 1) := by
  have hfill : hd.heap_1 = hd.heap_1 ∧ PySem.Challenge.rw_pq0288_01 = PySem.Challenge.rw_pq0288_01 := by k_fill; exact ⟨rfl, rfl⟩
  clear hfill
  intro mean mg mb dp un gdd cn csc a ccd cll outer A₀ base h₀ L m s rest Q E B' F KX N off T hk hdp hun hret
  replace N : News h₀ L s.heap rest := N
  k_dflt (refine' call_cls F KX N ?k4 ?k5 ?k6 ?_; (case k4 => k_is); (case k5 => k_is); (case k6 => k_is); intro x dx h1 F1 N1 l1 l2)
  have N2 : News h₀ L h1 ([(x, instObj 506 dx), (dx, dictOf [] 0)] ++ rest) := N1
  have off2 : Off [(x, instObj 506 dx), (dx, dictOf [] 0)] rest := off_two l1 l2
  clear N1 N F
  have l3 : @LT.lt Nat _ dx x := l2
  k_dflt k_enter
  k_steps
  all_goals rename Fr _ _ _ _ => fE
  all_goals rename News _ _ _ _ => nE
  rename Obj.IsDictOf (intKind PG w) _ [] => hd
  rename GapT _ _ _ => hg
  refine Cal.doneI rest hret (⟨x, dx, _, _, _⟩, ⟨⟨_, _, _, _, _, _, _, _, _, _, _, _, _, _, _, _, _, _, _, _, _, _, _, _⟩, 1, _, 1, _, 1, _, _, _, _, _⟩, _, _, _) rfl fE nE (by dsimp only [bufL, bufD, gapL, rowsL]; nest_cls) ⟨l1, ⟨l3, ?_, ?_, ?_, ?_, ?_, ?_, ?_⟩, hg, hd, rfl, rfl, rfl⟩
  all_goals ((try dsimp only); omega)

end Mine

end Lay17

section Lay18
open PySem PySem.Spec PySem.Calls PySem.W PyProof.Rows

theorem Mine.lay18 : True := by
  w_top off
  k_with "~L18:ktr_room" => k_extra "~w0"
  k_with "~L18:k_ne" => k_extra "~w1"
  k_with "~L18:ktr_room" => k_extra "~w2"
  k_with "~L18:ktr_units" => k_extra "~w2"
  k_with "~L18:ktr_room" => k_extra "~w3"
  k_with "~L18:ktr_units" => k_extra "~w4"
  k_with "~L18:is_list" => k_extra "~w5"
  k_with "~L18:k_enter" => k_extra "~w102"
  k_with "~L18:k_subL" => k_extra "~w7"
  k_with "~L18:k_clsL" => k_extra "~w9"
  k_with "~L18:k_offL" => k_extra "~w21"
  k_with "~L18:k_clsL" => k_extra "~w22"
  k_with "~L18:k_subL" => k_extra "~w23"
  trivial

namespace Mine

/-- a while whose turns keep the frame -/
def WhEnd {σ : Type} (h₀ : Heap) (L : Addr) (m₀ : Str → Option Value) (Led : σ → List (Addr × Obj)) (P : σ → Prop) (μ : σ → Nat) (s : Shared) (c : σ) (s₂ : Shared) : Prop :=
  ∃ c' h' tk news', s₂ = { s with heap := h', toks := tk } ∧ Fr h₀ L h' m₀ ∧ News h₀ L h' news' ∧ Sub (Led c') news' ∧ P c' ∧ μ c' < μ c
def WhPost {σ : Type} (h₀ : Heap) (L : Addr) (m₀ : Str → Option Value) (Led : σ → List (Addr × Obj)) (P : σ → Prop) (μ : σ → Nat) (s : Shared) (c : σ) (Q : Flow → Shared → Prop) (f : Flow) (s₂ : Shared) : Prop :=
  match f with
  | .ret v => Q (.ret v) s₂
  | .brk => Q .next s₂
  | _ => WhEnd h₀ L m₀ Led P μ s c s₂
section
variable {prog : Program} {w : World} {A : Around} {E : Value → Shared → Prop} {Q : Flow → Shared → Prop} {s : Shared} {env : Env} {h₀ : Heap} {L : Addr}
theorem while_K {σ : Type} {test : PySem.Expr} {body : List Stmt} {pos : Pos} {m₀ : Str → Option Value} (Led : σ → List (Addr × Obj)) (P : σ → Prop) (μ : σ → Nat) (c₀ : σ) (F : Fr h₀ L s.heap m₀) (N : News h₀ L s.heap (Led c₀)) (hp : P c₀)
    (turn : ∀ (c : σ) h tk, P c → Fr h₀ L h m₀ → News h₀ L h (Led c) →
      wpAny (model prog w) A (isTrue test env (eval test env)) (fun b s₂ =>
        if b = true then wpAny (model prog w) A (execs body env) (WhPost h₀ L m₀ Led P μ s c Q) E s₂ else Q .next s₂) E { s with heap := h, toks := tk })
    (hE : PassesOwn (model prog w) A env E := by passes_own) :
    wpAny (model prog w) A (exec (.While test body [] pos) env) Q E s := by
  refine ksw_while Led (fun _ => []) (fun _ => True) [] P μ c₀ F N trivial (fun _ h => nomatch h) hp (fun c u h tk _ hc F' N' => ?_) hE
  have F' : Fr h₀ L h m₀ := F'
  refine wpAny_mono (turn c h tk hc F' N') (fun b s₂ p => ?_) fun _ _ x => x
  cases b with
  | false => exact p
  | true =>
    refine wpAny_mono p (fun f s₃ q => ?_) fun _ _ x => x
    have up : WhEnd h₀ L m₀ Led P μ s c s₃ → KswEnd h₀ L s Led (fun _ => []) (fun _ => True) [] m₀ P μ c s₃ := by
      rintro ⟨c', h', tk', news', e, F9, N9, hs, hp', hm⟩
      exact ⟨c', h', tk', m₀, news', e, F9, N9, hs, trivial, (fun _ h => nomatch h), fun _ _ _ => rfl, hp', hm⟩
    cases f with
    | ret v => exact q
    | brk => exact q
    | next => exact up q
    | cont => exact up q
end

/-- the deck: sixteen cells at most, none below nought, none of more than a hundred bits -/
def DeckOk (ds : List Int) : Prop := ds.length ≤ 16 ∧ ∀ d ∈ ds, 0 ≤ d ∧ d < 1267650600228229401496703205376

theorem deck_room {v : Value} {vs : List Value} {n : Int} {ds : List Int} (h : IntsAre vs ds) (hD : DeckOk (n :: ds)) : (List.toArray (v :: vs)).toList.length ≤ sizeLine := by
  have h1 := h.length
  have h2 := hD.1
  rw [List.length_cons] at h2
  show (v :: vs).length ≤ sizeLine
  rw [List.length_cons, sizeLine_eq]
  omega
theorem DeckOk.tail {n : Int} {ds : List Int} (hD : DeckOk (n :: ds)) : DeckOk ds := ⟨Nat.le_trans (Nat.le_succ _) hD.1, fun d h => hD.2 d (List.mem_cons_of_mem _ h)⟩
theorem DeckOk.div {n k : Int} {ds : List Int} (hD : DeckOk (n :: ds)) (h : 1 ≤ k) : DeckOk (n.fdiv k :: ds) := by
  refine ⟨hD.1, fun d hd => ?_⟩
  rcases List.mem_cons.mp hd with rfl | hd
  · have h1 := hD.2 n List.mem_cons_self
    rw [Int.fdiv_eq_ediv_of_nonneg _ (by omega)]
    refine ⟨Int.ediv_nonneg h1.1 (by omega), Int.lt_of_le_of_lt (Int.ediv_le_self _ h1.1) h1.2⟩
  · exact hD.2 d (List.mem_cons_of_mem _ hd)
theorem seq0 (n : Nat) : seqIndex? 0 (n + 1) = some 0 := by simp [seqIndex?]; try omega
theorem lay18_Law1_1 : True := by
  k_with "~L18:call builtin:list.pop" => k_extra "~w103"
  trivial

theorem lw_draw (w : World) (dk : Addr) (vs : List Value) (ds : List Int) (n : Nat) (hv : IntsAre vs ds) (hD : DeckOk ds) (many : Int) (tm : Tok) (h1 : 1 ≤ many) (h2 : many ≤ 1000) :
    Cal w 541 [.ref dk, .int many tm] 4 100 [(dk, listOf vs.toArray n)] (X := Int × Tok × List Value × List Int × Nat) (fun r => .int r.1 r.2.1) (fun r => [(dk, listOf r.2.2.1.toArray r.2.2.2.2)]) (fun _ r => 0 ≤ r.1 ∧ r.1 < many ∧ IntsAre r.2.2.1 r.2.2.2.1 ∧ DeckOk r.2.2.2.1) := by
  have hfill : hd.heap_1 = hd.heap_1 ∧ PySem.Challenge.rw_pq0288_01 = PySem.Challenge.rw_pq0288_01 := by k_fill; exact ⟨rfl, rfl⟩
  clear hfill
  intro mean mg mb dp un gdd cn csc a ccd cll outer A₀ base h₀ L m s rest Q E B' F KX N off T hk hdp hun hret
  refine wpAny_call ?_
  k_dflt k_enter
  k_with "~L18:exec While BoolOp cons nil" => (rename Fr _ _ _ _ => fE; rename News _ _ _ _ => nE; k_dflt refine' while_K (σ := List Value × List Int × Nat) (fun c => [(dk, listOf c.1.toArray c.2.2)]) (fun c => IntsAre c.1 c.2.1 ∧ DeckOk c.2.1) (fun c => c.2.1.length) (vs, ds, n) fE nE ⟨hv, hD⟩ ?_; clear fE nE; rintro ⟨vs', ds', n'⟩ h9 tk9 ⟨hv9, hD9⟩ F9 N9; (try dsimp only at hv9 hD9 N9); rcases hv9 with _ | ⟨n0, t0, i0⟩)
  k_steps
  all_goals (try dsimp only)
  all_goals rename Fr _ _ _ _ => fE
  all_goals rename News _ _ _ _ => nE
  · exact Cal.done rest hret (0, _, [], [], _) fE nE (by k_subL) ⟨Int.le_refl 0, h1, .nil, Nat.zero_le _, fun _ h => nomatch h⟩
  · rename decide (_ :: _ = []) = true => e
    simp at e
  · exact ⟨(_, _, _), _, _, _, rfl, fE, nE, by k_subL, ⟨by assumption, hD9.tail⟩, Nat.lt_succ_self _⟩
  · refine Cal.done rest hret (Int.fmod n0 many, _, _, Int.fdiv n0 many :: _, _) fE nE (by k_subL) ⟨?_, ?_, .cons _ _ i0, hD9.div h1⟩
    · exact Int.fmod_nonneg_of_pos _ (by omega)
    · exact Int.fmod_lt_of_pos _ (by omega)

end Mine

end Lay18

section Lay19
open PySem PySem.Spec PySem.Calls PySem.W PyProof.Rows

theorem Mine.lay19 : True := by
  w_top off
  k_with "~L19:ktr_room" => k_extra "~w0"
  k_with "~L19:is_list" => k_extra "~w5"
  k_with "~L19:k_enter" => k_extra "~w52"
  k_with "~L19:top_caught0" => k_extra "~w53"
  k_with "~L19:k_ne" => k_extra "~w54"
  k_with "~L19:l_idx" => k_extra "~w55"
  k_with "~L19:ktr_room" => k_extra "~w2"
  k_with "~L19:ktr_units" => k_extra "~w2"
  k_with "~L19:ktr_room" => k_extra "~w3"
  k_with "~L19:ktr_units" => k_extra "~w4"
  k_with "~L19:k_mem" => k_extra "~w57"
  k_with "~L19:k_inst" => k_extra "~w59"
  k_with "~L19:tlg_ne" => k_extra "~w62"
  k_with "~L19:k_all" => k_extra "~w63"
  k_with "~L19:lcg_off" => k_extra "~w64"
  k_with "~L19:k_lt" => k_extra "~w65"
  k_with "~L19:k_upd" => k_extra "~w66"
  k_with "~L19:k_updF" => k_extra "~w67"
  k_with "~L19:setAttr ref" => k_extra "~w68"
  k_with "~L19:setAttr ref" => k_extra "~w69"
  k_with "~L19:setAttr ref" => k_extra "~w70"
  trivial

namespace Mine

theorem deck_ok (l : List Int) : DeckOk (List.map (fun k' => (if k' < 0 then -k' else k').fmod (10 ^ Int.toNat 30)) (List.take 16 l)) := by
  refine ⟨by rw [List.length_map, List.length_take]; omega, fun d hd => ?_⟩
  obtain ⟨k, _, rfl⟩ := List.mem_map.mp hd
  have e : (10 : Int) ^ Int.toNat 30 = 1000000000000000000000000000000 := by decide +kernel
  rw [e]
  refine ⟨Int.fmod_nonneg_of_pos _ (by omega), Int.lt_trans (Int.fmod_lt_of_pos _ (by omega)) (by omega)⟩
def Low (A : BufA) : Prop := @LT.lt Nat _ A.dx A.bx ∧ @LT.lt Nat _ A.bx A.G.gd ∧ @LT.lt Nat _ A.G.gd A.G.gt ∧ @LT.lt Nat _ A.G.gt A.G.cl ∧ @LT.lt Nat _ A.G.cl A.M.kd ∧ @LT.lt Nat _ A.M.kd A.M.kk ∧ @LT.lt Nat _ A.M.kk A.M.rows ∧ @LT.lt Nat _ A.M.rows A.ls
theorem pw_cons {a b : Nat} {l : List Nat} (h : a < b) (hp : (b :: l).Pairwise (· < ·)) : (a :: b :: l).Pairwise (· < ·) := by
  refine List.pairwise_cons.mpr ⟨fun x hx => ?_, hp⟩
  rcases List.mem_cons.mp hx with rfl | hx
  · exact h
  · exact Nat.lt_trans h ((List.pairwise_cons.mp hp).1 x hx)
theorem ok_of {A : BufA} (h : Low A) (h1 : @LT.lt Nat _ A.ls A.M.d0) (h2 : @LT.lt Nat _ A.M.d0 A.M.m0) (h3 : @LT.lt Nat _ A.M.m0 A.M.d1) (h4 : @LT.lt Nat _ A.M.d1 A.M.m1) (h5 : @LT.lt Nat _ A.M.m1 A.M.d2) (h6 : @LT.lt Nat _ A.M.d2 A.M.m2) (h7 : @LT.lt Nat _ A.M.m2 A.M.d3) (h8 : @LT.lt Nat _ A.M.d3 A.M.m3) : A.ok := by
  obtain ⟨a1, a2, a3, a4, a5, a6, a7, a8⟩ := h
  unfold BufA.ok BufA.addrs
  exact pw_cons a1 (pw_cons a2 (pw_cons a3 (pw_cons a4 (pw_cons a5 (pw_cons a6 (pw_cons a7 (pw_cons a8 (pw_cons h1 (pw_cons h2 (pw_cons h3 (pw_cons h4 (pw_cons h5 (pw_cons h6 (pw_cons h7 (pw_cons h8 (List.pairwise_singleton _ _))))))))))))))))
theorem low_dx {A : BufA} (h : Low A) : @LT.lt Nat _ A.dx A.ls := by unfold Low at h; omega
def far (A : BufA) (z : Nat) : BufA := ⟨A.bx, A.dx, A.ls, A.G, ⟨A.M.kk, A.M.kd, A.M.rows, z + 1, z + 2, z + 3, z + 4, z + 5, z + 6, z + 7, z + 8⟩⟩
theorem far_ok {A : BufA} (h : Low A) {z : Nat} (hz : @LT.lt Nat _ A.ls (z + 1)) : (far A z).ok := ok_of (A := far A z) h hz (Nat.lt_succ_self _) (Nat.lt_succ_self _) (Nat.lt_succ_self _) (Nat.lt_succ_self _) (Nat.lt_succ_self _) (Nat.lt_succ_self _) (Nat.lt_succ_self _)
theorem far_ni {P : Params} {A : BufA} {B : BufS} {S : GapS} {k : Tok} {o : Obj} {c : Addr} {l : List (Addr × Obj)} (h : ∀ p ∈ l, p.1 ≠ c) (s1 : Sub (bufL P A B) l) (s2 : Sub (gapL P A.G S) l) (s3 : Sub (rowsL P A.M k o) l) : NotIn (far A (A.ls + c)) c := by
  have k1 := fun {x o} => ne_of_sub (x := x) (o := o) h s1
  have k2 := fun {x o} => ne_of_sub (x := x) (o := o) h s2
  have k3 := fun {x o} => ne_of_sub (x := x) (o := o) h s3
  have b1 : ∀ x ∈ [A.dx, A.bx, A.G.gd, A.G.gt, A.G.cl, A.M.kd, A.M.kk, A.M.rows, A.ls], @Ne Nat c x :=
    List.forall_mem_cons.mpr ⟨k1 (.tail _ (.head _)), List.forall_mem_cons.mpr ⟨k1 (.head _), List.forall_mem_cons.mpr ⟨k2 (.tail _ (.head _)), List.forall_mem_cons.mpr ⟨k2 (.head _), List.forall_mem_cons.mpr ⟨k2 (.tail _ (.tail _ (.head _))), List.forall_mem_cons.mpr ⟨k3 (.tail _ (.head _)), List.forall_mem_cons.mpr ⟨k3 (.head _), List.forall_mem_cons.mpr ⟨k3 (.tail _ (.tail _ (.head _))), List.forall_mem_cons.mpr ⟨k1 (.tail _ (.tail _ (.head _))), List.forall_mem_nil _⟩⟩⟩⟩⟩⟩⟩⟩⟩
  intro x hx
  have hx' : x ∈ [A.dx, A.bx, A.G.gd, A.G.gt, A.G.cl, A.M.kd, A.M.kk, A.M.rows, A.ls] ++ [A.ls + c + 1, A.ls + c + 2, A.ls + c + 3, A.ls + c + 4, A.ls + c + 5, A.ls + c + 6, A.ls + c + 7, A.ls + c + 8] := hx
  rcases List.mem_append.mp hx' with hx | hx
  · exact b1 x hx
  · have hc : @LT.lt Nat _ c x := by
      have e : ∀ k : Nat, @LT.lt Nat _ c (A.ls + c + (k + 1)) := fun k => Nat.lt_of_lt_of_le (Nat.lt_succ_self c) (by show c + 1 ≤ A.ls + c + (k + 1); rw [Nat.add_assoc]; exact Nat.le_trans (Nat.add_le_add_left (Nat.succ_le_succ (Nat.zero_le k)) c) (Nat.le_add_left _ _))
      exact (show ∀ x ∈ [A.ls + c + 1, A.ls + c + 2, A.ls + c + 3, A.ls + c + 4, A.ls + c + 5, A.ls + c + 6, A.ls + c + 7, A.ls + c + 8], @LT.lt Nat _ c x from List.forall_mem_cons.mpr ⟨e 0, List.forall_mem_cons.mpr ⟨e 1, List.forall_mem_cons.mpr ⟨e 2, List.forall_mem_cons.mpr ⟨e 3, List.forall_mem_cons.mpr ⟨e 4, List.forall_mem_cons.mpr ⟨e 5, List.forall_mem_cons.mpr ⟨e 6, List.forall_mem_cons.mpr ⟨e 7, List.forall_mem_nil _⟩⟩⟩⟩⟩⟩⟩⟩) x hx
    exact Nat.ne_of_lt hc
theorem bf_insert0L (w : World) (A : BufA) (hA : Low A) (B : BufS) (S : GapS) (t : List Int) (n : Nat) (GT : GapT S t n) (kt : Tok) (o : Obj) (ho : o.IsDictOf (PySem.intKind PG w) []) (c : Addr) (vs : List Value) (ms : List Int) (k : Nat) (hv : IntsAre vs ms) (h0 : 1 ≤ B.begv) (h1 : B.begv ≤ B.point) (h2 : B.point ≤ B.zv) (h3 : B.zv ≤ t.length + 1) (h4 : n ≤ 900) (h5 : ms.length ≤ 40) (hc : NotIn (far A (A.ls + c)) c) (hlen : 1 ≤ (ms.length : Int)) :
    Cal w 127 [.ref A.bx, .ref c] 14 140 (bufL w.params A B ++ gapL w.params A.G S ++ [(c, listOf vs.toArray k)] ++ rowsL w.params A.M kt o) (X := BufS × GapS) (fun _ => .none) (fun r => bufL w.params A r.1 ++ gapL w.params A.G r.2 ++ [(c, listOf vs.toArray k)] ++ rowsL w.params A.M kt o) (fun _ r => r.1.begv = B.begv ∧ r.1.zv = B.zv + ms.length ∧ r.1.point = B.point + ms.length ∧ GapT r.2 (t.take (B.point - 1).toNat ++ ms ++ t.drop (B.point - 1).toNat) (n + 42)) :=
  bf_insert0 w (far A (A.ls + c)) (far_ok hA (Nat.lt_succ_of_le (Nat.le_add_right _ _))) B S t n GT kt o ho c vs ms k hv h0 h1 h2 h3 h4 h5 hc hlen
theorem lw_setm2 (w : World) (A : BufA) (hA : Low A) (B : BufS) (S : GapS) (t : List Int) (n : Nat) (GT : GapT S t n) (k : Tok) (o : Obj) (kvs : List (Int × Value)) (ho : o.IsDictOf (PySem.intKind PG w) kvs) (hk : kvs.length ≤ 4) (m d : Addr) (r : MkR) (hb : r.buf = .none) (p : Int) (tp : Tok) (hd1 : @LT.lt Nat _ A.ls d) (hd2 : @LT.lt Nat _ d m) (hp1 : 1 ≤ p) (hp2 : p ≤ t.length + 1) :
    Cal w 529 [.ref m, .ref A.bx, .int p tp] 14 140 ([(m, instObj 332 d)] ++ ([(d, dictOf (mkD w.params r) 4)] ++ (bufL w.params A B ++ gapL w.params A.G S ++ rowsL w.params A.M k o))) (X := MkR × Obj) (fun _ => .none) (fun x => [(m, instObj 332 d), (d, dictOf (mkD w.params x.1) 4)] ++ (bufL w.params A B ++ gapL w.params A.G S ++ rowsL w.params A.M k x.2)) (fun _ x => x.1.num = r.num ∧ x.1.adv = r.adv ∧ x.1.pos = p ∧ x.2.IsDictOf (PySem.intKind PG w) (stored kvs r.num (.ref m))) := by
  obtain ⟨k1, k2, k3, k4, num, t1, adv, buf, pos, t2⟩ := r
  dsimp only at hb
  subst hb
  exact lw_setm w (far A A.ls) (far_ok hA (Nat.lt_succ_self _)) B S t n GT k o kvs ho hk m d k1 k2 k3 k4 t1 t2 num pos adv p tp hd1 hd2 hp1 hp2
theorem deck_of {vs : List Value} {l : List Int} (h : IntsAre vs (List.map (fun k' => (if k' < 0 then -k' else k').fmod (10 ^ Int.toNat 30)) (List.take 16 l))) : DeckOk (List.map (fun k' => (if k' < 0 then -k' else k').fmod (10 ^ Int.toNat 30)) (List.take 16 l)) := deck_ok l
theorem low_of {A : BufA} (h : @LT.lt Nat _ A.dx A.bx ∧ @LT.lt Nat _ A.bx A.G.gd ∧ @LT.lt Nat _ A.G.gd A.G.gt ∧ @LT.lt Nat _ A.G.gt A.G.cl ∧ @LT.lt Nat _ A.G.cl A.M.kd ∧ @LT.lt Nat _ A.M.kd A.M.kk ∧ @LT.lt Nat _ A.M.kk A.M.rows ∧ @LT.lt Nat _ A.M.rows A.ls) : Low A := h
section
variable {P : Params} {A : BufA} {B : BufS} {S : GapS} {k : Tok} {o : Obj} {D : Addr}
theorem low_far (h : Low A) : (far A A.ls).ok := far_ok h (Nat.lt_succ_self _)
theorem low_bg (h : Low A) : Off (bufL P A B) (gapL P A.G S) := off_bg (A := far A A.ls) (low_far h)
theorem low_gb (h : Low A) : Off (gapL P A.G S) (bufL P A B) := off_gb (A := far A A.ls) (low_far h)
theorem low_br (h : Low A) : Off (bufL P A B) (rowsL P A.M k o) := off_br (A := far A A.ls) (low_far h)
theorem low_rb (h : Low A) : Off (rowsL P A.M k o) (bufL P A B) := off_rb (A := far A A.ls) (low_far h)
theorem low_gr (h : Low A) : Off (gapL P A.G S) (rowsL P A.M k o) := off_gr (A := far A A.ls) (low_far h)
theorem low_rg (h : Low A) : Off (rowsL P A.M k o) (gapL P A.G S) := off_rg (A := far A A.ls) (low_far h)
theorem ldk_buf (h : Low A) (hD : @LT.lt Nat _ D A.dx) : ∀ p ∈ bufL P A B, p.1 ≠ D := dk_buf (A := far A A.ls) (low_far h) hD
theorem ldk_gap (h : Low A) (hD : @LT.lt Nat _ D A.dx) : ∀ p ∈ gapL P A.G S, p.1 ≠ D := dk_gap (A := far A A.ls) (low_far h) hD
theorem ldk_rows (h : Low A) (hD : @LT.lt Nat _ D A.dx) : ∀ p ∈ rowsL P A.M k o, p.1 ≠ D := dk_idx (A := far A A.ls) (low_far h) hD [6, 5, 7] rfl rfl
theorem lhi_buf (h : Low A) (hD : @LT.lt Nat _ A.ls D) : ∀ p ∈ bufL P A B, p.1 ≠ D := lo_buf (A := far A A.ls) (low_far h) hD
theorem lhi_gap (h : Low A) (hD : @LT.lt Nat _ A.ls D) : ∀ p ∈ gapL P A.G S, p.1 ≠ D := lo_gap (A := far A A.ls) (low_far h) hD
theorem lhi_rows (h : Low A) (hD : @LT.lt Nat _ A.ls D) : ∀ p ∈ rowsL P A.M k o, p.1 ≠ D := lo_rows (A := far A A.ls) (low_far h) hD
end
theorem bf_sizeL (w : World) (A : BufA) (hA : Low A) (B : BufS) (S : GapS) (t : List Int) (n : Nat) (GT : GapT S t n) :
    Cal w 454 [.ref A.bx] 4 60 (bufL w.params A B ++ gapL w.params A.G S) (X := Tok) (fun k => .int (t.length : Int) k) (fun _ => bufL w.params A B ++ gapL w.params A.G S) (fun _ _ => True) := bf_size w (far A A.ls) (low_far hA) B S t n GT
section
variable {P : Params} {A : BufA} {B : BufS} {S : GapS} {k : Tok} {o : Obj} {D : Addr} {z : Nat}
theorem nif_buf (h : NotIn (far A z) D) : ∀ p ∈ bufL P A B, p.1 ≠ D := ni_buf (A := far A z) h
theorem nif_gap (h : NotIn (far A z) D) : ∀ p ∈ gapL P A.G S, p.1 ≠ D := ni_gap (A := far A z) h
theorem nif_rows (h : NotIn (far A z) D) : ∀ p ∈ rowsL P A.M k o, p.1 ≠ D := ni_rows (A := far A z) h
end
theorem unr_cut {h₀ : Heap} {L I : Addr} {it : Obj} {rest : (Str → Option Value) → List (Addr × Obj) → Prop} {s₁ : Shared} {h' : Heap} {tk : Nat} {m' : Str → Option Value} {all news' : List (Addr × Obj)} (F : Fr h₀ L h' m') (N : News h₀ L h' all) (P : Cut [(I, it)] all news')
    (off : ∀ p ∈ news', p.1 ≠ I) (r : rest m' news') : UnrEnd h₀ L s₁ I it rest { s₁ with heap := h', toks := tk } := UnrEnd.intro F N news' (fun p hp => P.sub p hp) off r
theorem st0 {r : MkR} {v : Value} (h : r.num = 0 + ((0 : Nat) : Int)) : stored [] r.num v = [(0, v)] := by rw [h]; rfl
theorem st1 {r : MkR} {a v : Value} (h : r.num = 0 + ((0 + 1 : Nat) : Int)) : stored [(0, a)] r.num v = [(0, a), (1, v)] := by rw [h]; rfl
theorem st2 {r : MkR} {a b v : Value} (h : r.num = 0 + ((0 + 1 + 1 : Nat) : Int)) : stored [(0, a), (1, b)] r.num v = [(0, a), (1, b), (2, v)] := by rw [h]; rfl
theorem st3 {r : MkR} {a b c v : Value} (h : r.num = 0 + ((0 + 1 + 1 + 1 : Nat) : Int)) : stored [(0, a), (1, b), (2, c)] r.num v = [(0, a), (1, b), (2, c), (3, v)] := by rw [h]; rfl
theorem gap_gen {S : GapS} {f : Int → Int} {k n : Nat} (h : GapT S (List.map f (rangeKs 0 k)) n) : ∃ t, GapT S t n ∧ t.length = k := ⟨_, h, by rw [List.length_map, rangeKs_length]⟩

end Mine

namespace Mine

/-! a loop over a range whose ledger grows -/
def GrowPost {σ : Type} (h₀ : Heap) (L I : Addr) (it : Obj) (Led : σ → List (Addr × Obj)) (ps : σ → List (Str × Value)) (P : Nat → σ → Prop) (s : Shared) (i : Nat) (f : Flow) (s₂ : Shared) : Prop :=
  match f with
  | .next => ∃ c' h' tk m' news', s₂ = { s with heap := h', toks := tk } ∧ Fr h₀ L h' m' ∧ News h₀ L h' news' ∧ Sub ([(I, it)] ++ Led c') news' ∧ (∀ p ∈ Led c', p.1 ≠ I) ∧ (∀ p ∈ ps c', m' p.1 = some p.2) ∧ P (i + 1) c'
  | _ => False
section
variable {prog : Program} {w : World} {A : Around} {E : Value → Shared → Prop} {s : Shared} {env : Env} {h₀ : Heap} {x : Str} {body : List Stmt} {Q : Flow → Shared → Prop}
theorem range_grow {σ : Type} {r : Addr} {a₀ b₀ : Int} {t₀ u₀ v₀ : Tok} {n : Nat} {m₀ : Str → Option Value} {news : List (Addr × Obj)} (Led : σ → List (Addr × Obj)) (ps : σ → List (Str × Value)) (P : Addr → Nat → σ → Prop) (c₀ : σ)
    (hh : A.handled = none) (hr : IsRange s.heap r a₀ b₀ 1 t₀ u₀ v₀) (hsmall : Builtin.Range.small a₀ b₀ 1 = true) (hn : Builtin.Range.rangeSize a₀ b₀ 1 = (n : Int)) (F : Fr h₀ env.locals s.heap m₀) (N : News h₀ env.locals s.heap news) (hs : Sub (Led c₀) news) (hk : ∀ p ∈ ps c₀, m₀ p.1 = some p.2) (hp : ∀ I, (∀ p ∈ news, p.1 < I) → P I 0 c₀)
    (turn : ∀ (I : Addr) (it : Obj) (c : σ) (i : Nat) t (u : Str → Option Value) h tk, i < n → P I i c → Fr h₀ env.locals h (fun y => if y = x then some (.int (a₀ + (i : Int)) t) else kstB u (ps c) y) → News h₀ env.locals h ([(I, it)] ++ Led c) →
      wpAny (model prog w) A (execs body env) (GrowPost h₀ env.locals I it Led ps (P I) { s with heap := h, toks := tk } i) E { s with heap := h, toks := tk })
    (done : ∀ (I : Addr) (c : σ) (u : Str → Option Value) h tk, P I n c → Fr h₀ env.locals h (kstB u (ps c)) → News h₀ env.locals h (Led c) → Q .next { s with heap := h, toks := tk }) :
    wpAny (model prog w) A (pyIter (.ref r)) (fun it s₂ => LoopAtV prog w A h₀ env x body Q E it s₂) E s := by
  refine iter_rangeUnr hh hr hsmall hn F N fun I hI => ?_
  have main : ∀ (k i : Nat) (m : Str → Option Value) (nx : List (Addr × Obj)) (c : σ), i + k = n → Sub (Led c) nx → (∀ p ∈ ps c, m p.1 = some p.2) → P I i c → RangeRest prog w A E h₀ env x body Q s I a₀ n k i m nx := by
    intro k
    induction k with
    | zero =>
      intro i m nx c e hs hm hp
      obtain rfl : i = n := by omega
      exact RangeRest.zero fun h tk F' N' => done I c m h tk hp (by rw [kstB_self hm]; exact F') (News.sub N' hs)
    | succ k ih =>
      intro i m nx c e hs hm hp
      refine RangeRest.succ fun t h tk F' N' => ?_
      refine wpAny_mono (turn I (itR (a₀ + ((i + 1 : Nat) : Int)) ((n : Int) - ((i + 1 : Nat) : Int))) c i t m h tk (by omega) hp (by rw [kstB_self hm]; exact F') (News.sub N' fun p hp => ?_)) (fun f s₂ q => ?_) fun _ _ x => x
      · rcases List.mem_append.mp hp with hp | hp
        · rcases List.mem_singleton.mp hp with rfl
          exact List.mem_cons_self
        · exact List.mem_cons_of_mem _ (hs p hp)
      · cases f with
        | next =>
          obtain ⟨c', h', tk', m', news', e2, F9, N9, hs', ho, hk', hp'⟩ := q
          exact ⟨h', tk', m', Led c', e2, F9, News.sub N9 hs', ho, ih (i + 1) m' (Led c') c' (by omega) (Sub.refl _) hk' hp'⟩
        | _ => exact q.elim
  exact main n 0 m₀ news c₀ (by omega) hs hk (hp I hI)
end
theorem grow_end {σ : Type} {h₀ : Heap} {L I : Addr} {it : Obj} {Led : σ → List (Addr × Obj)} {ps : σ → List (Str × Value)} {P : Nat → σ → Prop} {news' : List (Addr × Obj)} {s : Shared} {i : Nat} {h' : Heap} {tk : Nat} {m' : Str → Option Value} (c' : σ)
    (F : Fr h₀ L h' m') (N : News h₀ L h' news') (hs : Sub ([(I, it)] ++ Led c') news') (ho : ∀ p ∈ Led c', p.1 ≠ I) (hk : ∀ p ∈ ps c', m' p.1 = some p.2) (hp : P (i + 1) c') : GrowPost h₀ L I it Led ps P s i .next { s with heap := h', toks := tk } := ⟨c', h', tk, m', news', rfl, F, N, hs, ho, hk, hp⟩

/-- the parts of the def 'law', taken out of the given program -/
def lawBody : List Stmt := match PySem.Challenge.pw_pq0288_01.main.body.getLast? with
  | some (.FunctionDef _ _ b _ _ _ _ _ _ _) => b
  | _ => []
def lawScope : Scope := match PySem.Challenge.pw_pq0288_01.main.body.getLast? with
  | some (.FunctionDef _ _ _ _ _ _ sc _ _ _) => sc
  | _ => default
def numBody : List Stmt := match (lawBody[4]? : Option Stmt) with
  | some (Stmt.For _ _ b _ _) => b
  | _ => []
def lapBody : List Stmt := match (lawBody[6]? : Option Stmt) with
  | some (Stmt.For _ _ b _ _) => b
  | _ => []
example : lawBody.length = 8 := by decide +kernel
example : numBody.length = 3 := by decide +kernel
example : lapBody.length = 10 := by decide +kernel
theorem upd_l {d : Addr} {o o' : Obj} {a a' b : List (Addr × Obj)} (h : Upd d o o' a a') (hb : ∀ p ∈ b, p.1 ≠ d) : Upd d o o' (a ++ b) (a' ++ b) := by
  induction h with
  | head h1 => exact .head fun p hp => (List.mem_append.mp hp).elim (h1 p) (hb p)
  | tail h1 _ ih => exact .tail h1 ih
theorem upd_r {d : Addr} {o o' : Obj} {b b' : List (Addr × Obj)} (h : Upd d o o' b b') : ∀ {a : List (Addr × Obj)}, (∀ p ∈ a, p.1 ≠ d) → Upd d o o' (a ++ b) (a ++ b')
  | [], _ => h
  | q :: a, ha => .tail (ha q (.head _)) (upd_r h (a := a) fun p hp => ha p (.tail _ hp))
theorem push_at {ws : List Value} {v : Value} {i : Nat} (h : ws.length = i) : (ws.toArray.push v)[(0 + (i : Int)).toNat]? = some v := by
  have e : (0 + (i : Int)).toNat = ws.toArray.size := by rw [List.size_toArray]; omega
  rw [e, Array.getElem?_push_size]
def OffR (P : Params) (M : MkA) (own : List (Addr × Obj)) : Prop := ∀ k o, Off (rowsL P M k o) own
theorem offR_at {P : Params} {M : MkA} {k : Tok} {o : Obj} {own : List (Addr × Obj)} (h : OffR P M own) : Off (rowsL P M k o) own := h k o
theorem lt_up {l : List (Addr × Obj)} {d x : Addr} (h : ∀ p ∈ l, p.1 < d) (h' : @LT.lt Nat _ d x) : ∀ p ∈ l, p.1 < x := fun p hp => Nat.lt_trans (h p hp) h'

end Mine

namespace Mine

theorem execs_app (a b : List Stmt) (env : Env) : execs (a ++ b) env = (do match ← execs a env with | .next => execs b env | f => pure f) := by
  induction a with
  | nil => rfl
  | cons st a ih =>
    rw [List.cons_append, PySem.execs_cons, PySem.execs_cons, bind_assoc]
    refine congrArg _ (funext fun f => ?_)
    cases f
    · exact ih
    all_goals rfl
theorem wpAny_execs_app {M : Model} {A : Around} {E : Value → Shared → Prop} {s : Shared} {env : Env} {a b : List Stmt} {Q : Flow → Shared → Prop}
    (h : wpAny M A (execs a env) (fun f s' => match f with | .next => wpAny M A (execs b env) Q E s' | f => Q f s') E s) : wpAny M A (execs (a ++ b) env) Q E s := fun Γ p hΓ => by
  rw [execs_app, Sem.wp_bind']
  refine Sem.wp_mono M Γ _ (fun f p' s' h' => ?_) (fun _ _ _ h' => h') _ _ (h Γ p hΓ)
  cases f <;> first | exact h' Γ p' hΓ | exact h'
theorem body_parts (k : Nat) (l : List Stmt) : l = List.take k l ++ List.drop k l := (List.take_append_drop k l).symm
def lawHead : List Stmt := match lawBody with
  | a :: b :: c :: d :: _ => [a, b, c, d]
  | _ => []

end Mine

namespace Mine

def lapSt (k : Nat) : Stmt := match lapBody[k]? with
  | some st => st
  | none => .Pass ⟨0, 0, 0, 0⟩
def lawSt (k : Nat) : Stmt := match lawBody[k]? with
  | some st => st
  | none => .Pass ⟨0, 0, 0, 0⟩
theorem lap_is : lapBody = [lapSt 0, lapSt 1, lapSt 2, lapSt 3, lapSt 4, lapSt 5, lapSt 6, lapSt 7, lapSt 8, lapSt 9] := by kernel_rfl
theorem law_is : lawBody = lawHead ++ [lawSt 4, lawSt 5, lawSt 6, lawSt 7] := by kernel_rfl
section
variable {P : Params} {M : MkA} {K : MkS} {l : List (Addr × Obj)}
theorem seg_m0 (h : Sub (mkL P M K) l) : (M.m0, instObj 332 M.d0) ∈ l := h _ (List.mem_append_right _ (.head _))
theorem seg_d0 (h : Sub (mkL P M K) l) : (M.d0, dictOf (mkD P K.r0) 4) ∈ l := h _ (List.mem_append_right _ (.tail _ (.head _)))
theorem seg_m1 (h : Sub (mkL P M K) l) : (M.m1, instObj 332 M.d1) ∈ l := h _ (List.mem_append_right _ (.tail _ (.tail _ (.head _))))
theorem seg_d1 (h : Sub (mkL P M K) l) : (M.d1, dictOf (mkD P K.r1) 4) ∈ l := h _ (List.mem_append_right _ (.tail _ (.tail _ (.tail _ (.head _)))))
theorem seg_m2 (h : Sub (mkL P M K) l) : (M.m2, instObj 332 M.d2) ∈ l := h _ (List.mem_append_right _ (.tail _ (.tail _ (.tail _ (.tail _ (.head _))))))
theorem seg_d2 (h : Sub (mkL P M K) l) : (M.d2, dictOf (mkD P K.r2) 4) ∈ l := h _ (List.mem_append_right _ (.tail _ (.tail _ (.tail _ (.tail _ (.tail _ (.head _)))))))
theorem seg_m3 (h : Sub (mkL P M K) l) : (M.m3, instObj 332 M.d3) ∈ l := h _ (List.mem_append_right _ (.tail _ (.tail _ (.tail _ (.tail _ (.tail _ (.tail _ (.head _))))))))
theorem seg_d3 (h : Sub (mkL P M K) l) : (M.d3, dictOf (mkD P K.r3) 4) ∈ l := h _ (List.mem_append_right _ (.tail _ (.tail _ (.tail _ (.tail _ (.tail _ (.tail _ (.tail _ (.head _)))))))))
end
abbrev ownL (A : BufA) (no : Nat) : Obj := listOf #[.ref A.M.m0, .ref A.M.m1, .ref A.M.m2, .ref A.M.m3] no
def places (K : MkS) : List Int := [K.r0.pos, K.r1.pos, K.r2.pos, K.r3.pos]
theorem all_t (t : List Int) : List.take ((t.length : Int) + 1 - 1).toNat (List.drop ((1 : Int) - 1).toNat t) = t := by
  rw [show ((1 : Int) - 1).toNat = 0 from rfl, List.drop_zero, show ((t.length : Int) + 1 - 1).toNat = t.length by omega, List.take_length]
theorem ints_places (K : MkS) (B : BufS) : IntsAre [.int K.r0.pos K.r0.t2, .int K.r1.pos K.r1.t2, .int K.r2.pos K.r2.t2, .int K.r3.pos K.r3.t2, .int B.point B.tp] (places K ++ [B.point]) := .cons _ _ (.cons _ _ (.cons _ _ (.cons _ _ (.cons _ _ .nil))))
theorem lt_sub {l a : List (Addr × Obj)} {d : Addr} (h : ∀ p ∈ l, p.1 < d) (s : Sub a l) : ∀ p ∈ a, p.1 < d := fun p hp => h p (s p hp)

end Mine

namespace Mine

section
variable {prog : Program} {w : World} {A : Around} {h₀ : Heap} {L : Addr} {m : Str → Option Value} {env : Env} {ct elt : PySem.Expr} {x : Str} {scope : Scope} {cl : List (Str × Addr)} {s : Shared} {S : List (Addr × Obj) → Prop} {Fin : List Value → List (Addr × Obj) → Prop} {news : List (Addr × Obj)}
/-- a filter that lets nothing pass -/
theorem rest_none {vs : List Value} {ns : List Int} {a b : Int} (hi : IntsAre vs ns) (HP : ∀ k ∈ ns, a ≤ k ∧ k ≤ b)
    (turn : ∀ k t I oI C oC D m₂ h tk (E' : Value → Shared → Prop), a ≤ k → k ≤ b → LCg.NsObj oC m₂ → m₂ x = some (.int k t) → Fr h₀ L h m → News h₀ L h ((I, oI) :: (C, oC) :: (D, LCg.lst []) :: news) → LCg.Off3 I C D news → ((@Ne Nat I C) ∧ (@Ne Nat I D) ∧ (@Ne Nat C D)) →
      wpAny (model prog w) A (isTrue ct (compEnvC scope cl C env) (eval ct (compEnvC scope cl C env))) (fun b s' => if b = true then False
        else LCg.CompEnd h₀ L m { s with heap := h, toks := tk } I oI C oC D (LCg.lst []) S (fun _ news' => news' = news) Value.none s') E' { s with heap := h, toks := tk })
    (fin : Fin [] news) : LCt.CompRestT prog w A h₀ L m env ct elt x scope cl s S (fun i v => vs.toArray[i]? = some v) Fin vs.toArray.size 0 [] news := by
  have key : ∀ j i : Nat, LCt.CompRestT prog w A h₀ L m env ct elt x scope cl s S (fun i v => vs.toArray[i]? = some v) Fin j i [] news := by
    intro j
    induction j with
    | zero => exact fun i => LCt.CompRestT.zero fin
    | succ j ih =>
      intro i
      refine LCt.CompRestT.succ ?_
      intro v I oI C oC D m₂ h tk E' hv hC hx F N off ne
      obtain ⟨k, t, rfl, hk⟩ := IntsAre.at hi i v (by simpa using hv)
      refine wpAny_mono (turn k t I oI C oC D m₂ h tk E' (HP k (List.mem_of_getElem? hk)).1 (HP k (List.mem_of_getElem? hk)).2 hC hx F N off ne) (fun b s₂ hq => ?_) fun _ _ e => e
      cases b with
      | true => exact hq.elim
      | false =>
        simp only [Bool.false_eq_true, if_false] at hq ⊢
        obtain ⟨h', tk', nw, e, F', N', off', hS, hn⟩ := hq
        subst hn
        exact ⟨h', tk', _, e, F', N', off', hS, ih (i + 1)⟩
  exact key _ 0
end
/-- the signs between the places x and y -/
def cut (t : List Int) (x y : Int) : List Int := List.take (min (y - 1).toNat t.length - (x - 1).toNat) (List.drop (x - 1).toNat t)
theorem p8_no1 {es ls t u : List Int} {lo : Int} {i j : Nat} (H : ∀ i j : Nat, i < 4 → j < 4 → es.getD i 0 ≤ es.getD j 0 → es.getD j 0 < lo → cut u (ls.getD i 0) (ls.getD j 0) = cut t (es.getD i 0) (es.getD j 0))
    (a : es.getD (0 + (i : Int)).toNat 0 ≤ es.getD (0 + (j : Int)).toNat 0) (b : es.getD (0 + (j : Int)).toNat 0 < lo) (c : ¬ cut u (ls.getD (0 + (i : Int)).toNat 0) (ls.getD (0 + (j : Int)).toNat 0) = cut t (es.getD (0 + (i : Int)).toNat 0) (es.getD (0 + (j : Int)).toNat 0)) (hi : i < 4) (hj : j < 4) : False :=
  c (H _ _ (by omega) (by omega) a b)
theorem p8_no2 {es ls t u : List Int} {hi : Int} {i j : Nat} (H : ∀ i j : Nat, i < 4 → j < 4 → hi < es.getD i 0 → es.getD i 0 ≤ es.getD j 0 → cut u (ls.getD i 0) (ls.getD j 0) = cut t (es.getD i 0) (es.getD j 0))
    (a : hi < es.getD (0 + (i : Int)).toNat 0) (b : es.getD (0 + (i : Int)).toNat 0 ≤ es.getD (0 + (j : Int)).toNat 0) (c : ¬ cut u (ls.getD (0 + (i : Int)).toNat 0) (ls.getD (0 + (j : Int)).toNat 0) = cut t (es.getD (0 + (i : Int)).toNat 0) (es.getD (0 + (j : Int)).toNat 0)) (hi : i < 4) (hj : j < 4) : False :=
  c (H _ _ (by omega) (by omega) a b)

end Mine

end Lay19

section Lay20
open PySem PySem.Spec PySem.Calls PySem.W PyProof.Rows

theorem Mine.lay20 : True := by
  w_top off
  k_with "~L20:ktr_room" => k_extra "~w0"
  k_with "~L20:is_list" => k_extra "~w5"
  k_with "~L20:k_enter" => k_extra "~w52"
  k_with "~L20:top_caught0" => k_extra "~w53"
  k_with "~L20:k_ne" => k_extra "~w54"
  k_with "~L20:l_idx" => k_extra "~w55"
  k_with "~L20:ktr_room" => k_extra "~w2"
  k_with "~L20:ktr_units" => k_extra "~w2"
  k_with "~L20:ktr_room" => k_extra "~w3"
  k_with "~L20:ktr_units" => k_extra "~w4"
  k_with "~L20:k_mem" => k_extra "~w57"
  k_with "~L20:k_inst" => k_extra "~w59"
  k_with "~L20:tlg_ne" => k_extra "~w62"
  k_with "~L20:k_all" => k_extra "~w63"
  k_with "~L20:lcg_off" => k_extra "~w64"
  k_with "~L20:k_lt" => k_extra "~w65"
  k_with "~L20:k_upd" => k_extra "~w66"
  k_with "~L20:k_updF" => k_extra "~w67"
  k_with "~L20:setAttr ref" => k_extra "~w68"
  k_with "~L20:setAttr ref" => k_extra "~w69"
  k_with "~L20:setAttr ref" => k_extra "~w70"
  k_with "~L20:call ref" => k_extra "~w79"
  k_with "~L20:call ref" => k_extra "~w80"
  k_with "~L20:call ref" => k_extra "~w81"
  k_with "~L20:call ref" => k_extra "~w82"
  k_with "~L20:call ref" => k_extra "~w83"
  k_with "~L20:call ref" => k_extra "~w84"
  k_with "~L20:call ref" => k_extra "~w85"
  k_with "~L20:call ref" => k_extra "~w86"
  k_with "~L20:call ref" => k_extra "~w87"
  k_with "~L20:call ref" => k_extra "~w88"
  k_with "~L20:call ref" => k_extra "~w89"
  k_with "~L20:call ref" => k_extra "~w90"
  k_with "~L20:call ref" => k_extra "~w104"
  trivial

namespace Mine

theorem bf_delete (w : World) (A : BufA) (hA : A.ok) (B : BufS) (S : GapS) (t : List Int) (n : Nat) (GT : GapT S t n) (K : MkS) (hr : RowsIs w A.M K.o) (x y : Int) (tx ty : Tok) (l h : Int) (mm : MinMax x y l h) (h0 : 1 ≤ B.begv) (h1 : B.begv ≤ l) (hlh : l ≤ h) (h2 : h ≤ B.zv) (h3 : B.zv ≤ t.length + 1) :
    Cal w 134 [.ref A.bx, .int x tx, .int y ty] 12 120 (bufL w.params A B ++ gapL w.params A.G S ++ mkL w.params A.M K) (X := BufS × GapS × MkS × Addr) (fun r => .ref r.2.2.2) (fun r => bufL w.params A r.1 ++ gapL w.params A.G r.2.1 ++ mkL w.params A.M r.2.2.1) (fun _ r => Edit l h [] B r.1 K r.2.2.1 ∧ GapT r.2.1 (t.take (l - 1).toNat ++ [] ++ t.drop (h - 1).toNat) n) := by
  have hfill : hd.heap_1 = hd.heap_1 ∧ PySem.Challenge.rw_pq0288_01 = PySem.Challenge.rw_pq0288_01 := by k_fill; exact ⟨rfl, rfl⟩
  clear hfill
  intro mean mg mb dp un gdd cn csc a ccd cll outer A₀ base h₀ L m s rest Q E B' F KX N off T hk hdp hun hret
  refine wpAny_call ?_
  k_dflt k_enter
  k_steps
  all_goals (try dsimp only)
  all_goals rename Fr _ _ _ _ => fE
  all_goals rename News _ _ _ _ => nE
  · rename l = h => e
    subst e
    exact Cal.done rest hret (B, S, K, _) fE nE (by (try dsimp only); nest_cls) ⟨edit_id (by simp), gap_id GT⟩
  · rename MkS.by _ _ _ => kE
    rename GapT _ (_ ++ _) _ => gE
    refine Cal.done rest hret (_, _, _, _) fE nE (by (try dsimp only); nest_cls) ⟨edit_del hlh ?_ ?_ ?_ kE, gap_del gE⟩
    · (try dsimp only); omega
    · (try dsimp only); omega
    · (try dsimp only); omega

end Mine

end Lay20

section Lay21
open PySem PySem.Spec PySem.Calls PySem.W PyProof.Rows

theorem Mine.lay21 : True := by
  w_top off
  k_with "~L21:ktr_room" => k_extra "~w0"
  k_with "~L21:is_list" => k_extra "~w5"
  k_with "~L21:k_enter" => k_extra "~w52"
  k_with "~L21:top_caught0" => k_extra "~w53"
  k_with "~L21:k_ne" => k_extra "~w54"
  k_with "~L21:l_idx" => k_extra "~w55"
  k_with "~L21:ktr_room" => k_extra "~w2"
  k_with "~L21:ktr_units" => k_extra "~w2"
  k_with "~L21:ktr_room" => k_extra "~w3"
  k_with "~L21:ktr_units" => k_extra "~w4"
  k_with "~L21:k_mem" => k_extra "~w57"
  k_with "~L21:k_inst" => k_extra "~w59"
  k_with "~L21:tlg_ne" => k_extra "~w62"
  k_with "~L21:k_all" => k_extra "~w63"
  k_with "~L21:lcg_off" => k_extra "~w64"
  k_with "~L21:k_lt" => k_extra "~w65"
  k_with "~L21:k_upd" => k_extra "~w66"
  k_with "~L21:k_updF" => k_extra "~w67"
  k_with "~L21:setAttr ref" => k_extra "~w68"
  k_with "~L21:setAttr ref" => k_extra "~w69"
  k_with "~L21:setAttr ref" => k_extra "~w70"
  k_with "~L21:call ref" => k_extra "~w79"
  k_with "~L21:call ref" => k_extra "~w80"
  k_with "~L21:call ref" => k_extra "~w81"
  k_with "~L21:call ref" => k_extra "~w82"
  k_with "~L21:call ref" => k_extra "~w83"
  k_with "~L21:call ref" => k_extra "~w84"
  k_with "~L21:call ref" => k_extra "~w85"
  k_with "~L21:call ref" => k_extra "~w86"
  k_with "~L21:call ref" => k_extra "~w87"
  k_with "~L21:call ref" => k_extra "~w88"
  k_with "~L21:call ref" => k_extra "~w89"
  k_with "~L21:call ref" => k_extra "~w90"
  trivial

namespace Mine

theorem bf_putin (w : World) (A : BufA) (hA : A.ok) (B : BufS) (S : GapS) (t : List Int) (n : Nat) (GT : GapT S t n) (K : MkS) (hr : RowsIs w A.M K.o) (x : Int) (tx : Tok) (c : Addr) (vs : List Value) (ms : List Int) (k : Nat) (hv : IntsAre vs ms) (h0 : 1 ≤ B.begv) (h1 : B.begv ≤ x) (h2 : x ≤ B.zv) (h3 : B.zv ≤ t.length + 1) (h4 : n ≤ 900) (h5 : ms.length ≤ 40) (hc : NotIn A c) (bm led : Bool) (hled : led = true → x = B.point) :
    Cal w 111 [.ref A.bx, .int x tx, .ref c, .bool bm, .bool led] 12 120 (bufL w.params A B ++ gapL w.params A.G S ++ [(c, listOf vs.toArray k)] ++ mkL w.params A.M K) (X := BufS × GapS × MkS) (fun _ => .none) (fun r => bufL w.params A r.1 ++ gapL w.params A.G r.2.1 ++ [(c, listOf vs.toArray k)] ++ mkL w.params A.M r.2.2) (fun _ r => r.1.begv = B.begv ∧ r.1.zv = B.zv + ms.length ∧ r.1.point = (if led = true then x + ms.length else pIn x ms.length B.point) ∧ GapT r.2.1 (t.take (x - 1).toNat ++ ms ++ t.drop (x - 1).toNat) (n + 42) ∧ K.by r.2.2 (insF x (x + ms.length) bm)) := by
  have hfill : hd.heap_1 = hd.heap_1 ∧ PySem.Challenge.rw_pq0288_01 = PySem.Challenge.rw_pq0288_01 := by k_fill; exact ⟨rfl, rfl⟩
  clear hfill
  intro mean mg mb dp un gdd cn csc a ccd cll outer A₀ base h₀ L m s rest Q E B' F KX N off T hk hdp hun hret
  refine wpAny_call ?_
  k_dflt k_enter
  k_steps
  all_goals (try dsimp only)
  all_goals rename Fr _ _ _ _ => fE
  all_goals rename News _ _ _ _ => nE
  · rename (ms.length : Int) = 0 => e0
    refine Cal.done rest hret (B, S, K) fE nE (by (try dsimp only); nest_cls) ⟨rfl, ?_, ?_, put_nil _ GT e0, by_id _ (ins_id (by omega))⟩
    · dsimp only; omega
    · dsimp only [pIn]; cases led
      · simp only [Bool.false_eq_true, if_false]; split <;> omega
      · have := hled rfl
        simp only [if_true]; omega
  · rename led = true => eL
    rename MkS.by _ _ _ => kE
    rename GapT _ (_ ++ ms ++ _) _ => gE
    refine Cal.done rest hret (_, _, _) fE nE (by (try dsimp only); nest_cls) ⟨?_, ?_, ?_, gE, kE⟩
    · dsimp only; omega
    · dsimp only; omega
    · dsimp only; rw [if_pos eL]; assumption
  · rename led = false => eL
    rename MkS.by _ _ _ => kE
    rename GapT _ (_ ++ ms ++ _) _ => gE
    refine Cal.done rest hret (_, _, _) fE nE (by (try dsimp only); nest_cls) ⟨?_, ?_, ?_, gE, kE⟩
    · dsimp only; omega
    · dsimp only; omega
    · dsimp only; rw [if_neg (by rw [eL]; exact Bool.false_ne_true)]; omega

end Mine

end Lay21

section Lay22
open PySem PySem.Spec PySem.Calls PySem.W PyProof.Rows

theorem Mine.lay22 : True := by
  w_top off
  k_with "~L22:ktr_room" => k_extra "~w0"
  k_with "~L22:is_list" => k_extra "~w5"
  k_with "~L22:k_enter" => k_extra "~w52"
  k_with "~L22:top_caught0" => k_extra "~w53"
  k_with "~L22:k_ne" => k_extra "~w54"
  k_with "~L22:l_idx" => k_extra "~w55"
  k_with "~L22:ktr_room" => k_extra "~w2"
  k_with "~L22:ktr_units" => k_extra "~w2"
  k_with "~L22:ktr_room" => k_extra "~w3"
  k_with "~L22:ktr_units" => k_extra "~w4"
  k_with "~L22:k_mem" => k_extra "~w57"
  k_with "~L22:k_inst" => k_extra "~w59"
  k_with "~L22:tlg_ne" => k_extra "~w62"
  k_with "~L22:k_all" => k_extra "~w63"
  k_with "~L22:lcg_off" => k_extra "~w64"
  k_with "~L22:k_lt" => k_extra "~w65"
  k_with "~L22:k_upd" => k_extra "~w66"
  k_with "~L22:k_updF" => k_extra "~w67"
  k_with "~L22:setAttr ref" => k_extra "~w68"
  k_with "~L22:setAttr ref" => k_extra "~w69"
  k_with "~L22:setAttr ref" => k_extra "~w70"
  k_with "~L22:call ref" => k_extra "~w79"
  k_with "~L22:call ref" => k_extra "~w80"
  k_with "~L22:call ref" => k_extra "~w81"
  k_with "~L22:call ref" => k_extra "~w82"
  k_with "~L22:call ref" => k_extra "~w83"
  k_with "~L22:call ref" => k_extra "~w84"
  k_with "~L22:call ref" => k_extra "~w85"
  k_with "~L22:call ref" => k_extra "~w86"
  k_with "~L22:call ref" => k_extra "~w87"
  k_with "~L22:call ref" => k_extra "~w88"
  k_with "~L22:call ref" => k_extra "~w89"
  k_with "~L22:call ref" => k_extra "~w90"
  k_with "~L22:call ref" => k_extra "~w105"
  k_with "~L22:call ref" => k_extra "~w106"
  trivial

namespace Mine

theorem bf_insert (w : World) (A : BufA) (hA : A.ok) (B : BufS) (S : GapS) (t : List Int) (n : Nat) (GT : GapT S t n) (K : MkS) (hr : RowsIs w A.M K.o) (c : Addr) (vs : List Value) (ms : List Int) (k : Nat) (hv : IntsAre vs ms) (h0 : 1 ≤ B.begv) (h1 : B.begv ≤ B.point) (h2 : B.point ≤ B.zv) (h3 : B.zv ≤ t.length + 1) (h4 : n ≤ 900) (h5 : ms.length ≤ 40) (hc : NotIn A c) :
    Cal w 127 [.ref A.bx, .ref c] 14 140 (bufL w.params A B ++ gapL w.params A.G S ++ [(c, listOf vs.toArray k)] ++ mkL w.params A.M K) (X := BufS × GapS × MkS) (fun _ => .none) (fun r => bufL w.params A r.1 ++ gapL w.params A.G r.2.1 ++ [(c, listOf vs.toArray k)] ++ mkL w.params A.M r.2.2) (fun _ r => r.1.begv = B.begv ∧ r.1.zv = B.zv + ms.length ∧ r.1.point = B.point + ms.length ∧ GapT r.2.1 (t.take (B.point - 1).toNat ++ ms ++ t.drop (B.point - 1).toNat) (n + 42) ∧ K.by r.2.2 (insF B.point (B.point + ms.length) false)) := by
  have hfill : hd.heap_1 = hd.heap_1 ∧ PySem.Challenge.rw_pq0288_01 = PySem.Challenge.rw_pq0288_01 := by k_fill; exact ⟨rfl, rfl⟩
  clear hfill
  intro mean mg mb dp un gdd cn csc a ccd cll outer A₀ base h₀ L m s rest Q E B' F KX N off T hk hdp hun hret
  refine wpAny_call ?_
  k_dflt k_enter
  k_steps
  all_goals (try dsimp only)
  all_goals rename Fr _ _ _ _ => fE
  all_goals rename News _ _ _ _ => nE
  rename MkS.by _ _ _ => kE
  rename GapT _ (_ ++ ms ++ _) _ => gE
  rename BufS.begv _ = _ => hb
  rename BufS.zv _ = _ => hz
  rename BufS.point _ = _ => hq
  simp only [if_true] at hq
  exact Cal.done rest hret (_, _, _) fE nE (by (try dsimp only); nest_cls) ⟨hb, hz, hq, gE, kE⟩

theorem bf_insertat (w : World) (A : BufA) (hA : A.ok) (B : BufS) (S : GapS) (t : List Int) (n : Nat) (GT : GapT S t n) (K : MkS) (hr : RowsIs w A.M K.o) (x : Int) (tx : Tok) (c : Addr) (vs : List Value) (ms : List Int) (k : Nat) (hv : IntsAre vs ms) (h0 : 1 ≤ B.begv) (h1 : B.begv ≤ x) (h2 : x ≤ B.zv) (h3 : B.zv ≤ t.length + 1) (h4 : n ≤ 900) (h5 : ms.length ≤ 40) (hc : NotIn A c) (bm : Bool) :
    Cal w 119 [.ref A.bx, .int x tx, .ref c, .bool bm] 14 140 (bufL w.params A B ++ gapL w.params A.G S ++ [(c, listOf vs.toArray k)] ++ mkL w.params A.M K) (X := BufS × GapS × MkS) (fun _ => .none) (fun r => bufL w.params A r.1 ++ gapL w.params A.G r.2.1 ++ [(c, listOf vs.toArray k)] ++ mkL w.params A.M r.2.2) (fun _ r => Edit x x ms B r.1 K r.2.2 ∧ GapT r.2.1 (t.take (x - 1).toNat ++ ms ++ t.drop (x - 1).toNat) (n + 42)) := by
  have hfill : hd.heap_1 = hd.heap_1 ∧ PySem.Challenge.rw_pq0288_01 = PySem.Challenge.rw_pq0288_01 := by k_fill; exact ⟨rfl, rfl⟩
  clear hfill
  intro mean mg mb dp un gdd cn csc a ccd cll outer A₀ base h₀ L m s rest Q E B' F KX N off T hk hdp hun hret
  refine wpAny_call ?_
  k_dflt k_enter
  k_steps
  all_goals (try dsimp only)
  all_goals rename Fr _ _ _ _ => fE
  all_goals rename News _ _ _ _ => nE
  rename MkS.by _ _ _ => kE
  rename GapT _ (_ ++ ms ++ _) _ => gE
  rename BufS.begv _ = _ => hb
  rename BufS.zv _ = _ => hz
  rename BufS.point _ = _ => hq
  simp only [Bool.false_eq_true, if_false] at hq
  exact Cal.done rest hret (_, _, _) fE nE (by (try dsimp only); nest_cls) ⟨edit_ins hb hz hq kE, gE⟩

theorem bf_insertat0 (w : World) (A : BufA) (hA : A.ok) (B : BufS) (S : GapS) (t : List Int) (n : Nat) (GT : GapT S t n) (K : MkS) (hr : RowsIs w A.M K.o) (x : Int) (tx : Tok) (c : Addr) (vs : List Value) (ms : List Int) (k : Nat) (hv : IntsAre vs ms) (h0 : 1 ≤ B.begv) (h1 : B.begv ≤ x) (h2 : x ≤ B.zv) (h3 : B.zv ≤ t.length + 1) (h4 : n ≤ 900) (h5 : ms.length ≤ 40) (hc : NotIn A c) :
    Cal w 119 [.ref A.bx, .int x tx, .ref c] 14 140 (bufL w.params A B ++ gapL w.params A.G S ++ [(c, listOf vs.toArray k)] ++ mkL w.params A.M K) (X := BufS × GapS × MkS) (fun _ => .none) (fun r => bufL w.params A r.1 ++ gapL w.params A.G r.2.1 ++ [(c, listOf vs.toArray k)] ++ mkL w.params A.M r.2.2) (fun _ r => Edit x x ms B r.1 K r.2.2 ∧ GapT r.2.1 (t.take (x - 1).toNat ++ ms ++ t.drop (x - 1).toNat) (n + 42)) := by
  have hfill : hd.heap_1 = hd.heap_1 ∧ PySem.Challenge.rw_pq0288_01 = PySem.Challenge.rw_pq0288_01 := by k_fill; exact ⟨rfl, rfl⟩
  clear hfill
  intro mean mg mb dp un gdd cn csc a ccd cll outer A₀ base h₀ L m s rest Q E B' F KX N off T hk hdp hun hret
  refine wpAny_call ?_
  k_dflt k_enter
  k_steps
  all_goals (try dsimp only)
  all_goals rename Fr _ _ _ _ => fE
  all_goals rename News _ _ _ _ => nE
  rename MkS.by _ _ _ => kE
  rename GapT _ (_ ++ ms ++ _) _ => gE
  rename BufS.begv _ = _ => hb
  rename BufS.zv _ = _ => hz
  rename BufS.point _ = _ => hq
  simp only [Bool.false_eq_true, if_false] at hq
  exact Cal.done rest hret (_, _, _) fE nE (by (try dsimp only); nest_cls) ⟨edit_ins hb hz hq kE, gE⟩

theorem bf_sign (w : World) (A : BufA) (hA : A.ok) (B : BufS) (S : GapS) (t : List Int) (n : Nat) (GT : GapT S t n) (x y : Int) (tx ty : Tok) (h0 : 1 ≤ B.begv) (h1 : B.begv ≤ x) (h2 : x < B.zv) (h3 : B.zv ≤ t.length + 1) :
    Cal w 154 [.ref A.bx, .int x tx, .int y ty] 12 120 (bufL w.params A B ++ gapL w.params A.G S) (X := BufS × GapS) (fun _ => .none) (fun r => bufL w.params A r.1 ++ gapL w.params A.G r.2) (fun _ r => B.same r.1 ∧ GapT r.2 (t.set (x - 1).toNat y) n) := by
  have hfill : hd.heap_1 = hd.heap_1 ∧ PySem.Challenge.rw_pq0288_01 = PySem.Challenge.rw_pq0288_01 := by k_fill; exact ⟨rfl, rfl⟩
  clear hfill
  intro mean mg mb dp un gdd cn csc a ccd cll outer A₀ base h₀ L m s rest Q E B' F KX N off T hk hdp hun hret
  refine wpAny_call ?_
  k_dflt k_enter
  k_steps
  all_goals (try dsimp only)
  all_goals rename Fr _ _ _ _ => fE
  all_goals rename News _ _ _ _ => nE
  rename GapT _ (List.set _ _ _) _ => gE
  rename BufS.same _ _ => sE
  exact Cal.done rest hret (_, _) fE nE (by (try dsimp only); nest_cls) ⟨sE, gE⟩

end Mine

end Lay22

section Lay23
open PySem PySem.Spec PySem.Calls PySem.W PyProof.Rows

theorem Mine.lay23 : True := by
  w_top off
  k_with "~L23:ktr_room" => k_extra "~w0"
  k_with "~L23:is_list" => k_extra "~w5"
  k_with "~L23:k_enter" => k_extra "~w52"
  k_with "~L23:top_caught0" => k_extra "~w53"
  k_with "~L23:k_ne" => k_extra "~w54"
  k_with "~L23:l_idx" => k_extra "~w55"
  k_with "~L23:ktr_room" => k_extra "~w2"
  k_with "~L23:ktr_units" => k_extra "~w2"
  k_with "~L23:ktr_room" => k_extra "~w3"
  k_with "~L23:ktr_units" => k_extra "~w4"
  k_with "~L23:k_mem" => k_extra "~w57"
  k_with "~L23:k_inst" => k_extra "~w59"
  k_with "~L23:tlg_ne" => k_extra "~w62"
  k_with "~L23:k_all" => k_extra "~w63"
  k_with "~L23:lcg_off" => k_extra "~w64"
  k_with "~L23:k_lt" => k_extra "~w65"
  k_with "~L23:k_upd" => k_extra "~w66"
  k_with "~L23:k_updF" => k_extra "~w67"
  k_with "~L23:setAttr ref" => k_extra "~w68"
  k_with "~L23:setAttr ref" => k_extra "~w69"
  k_with "~L23:setAttr ref" => k_extra "~w70"
  k_with "~L23:call ref" => k_extra "~w79"
  k_with "~L23:call ref" => k_extra "~w80"
  k_with "~L23:call ref" => k_extra "~w81"
  k_with "~L23:call ref" => k_extra "~w82"
  k_with "~L23:call ref" => k_extra "~w83"
  k_with "~L23:call ref" => k_extra "~w84"
  k_with "~L23:call ref" => k_extra "~w85"
  k_with "~L23:call ref" => k_extra "~w86"
  k_with "~L23:call ref" => k_extra "~w87"
  k_with "~L23:call ref" => k_extra "~w88"
  k_with "~L23:call ref" => k_extra "~w89"
  k_with "~L23:call ref" => k_extra "~w90"
  k_with "~L23:call ref" => k_extra "~w104"
  k_with "~L23:call ref" => k_extra "~w107"
  k_with "~L23:call ref" => k_extra "~w108"
  trivial

namespace Mine

theorem rp_room {t : List Int} {l h : Int} (h0 : 1 ≤ l) (h1 : l ≤ h) (h2 : h ≤ t.length + 1) : l ≤ ((min (l - 1).toNat t.length + (t.length - (h - 1).toNat) : Nat) : Int) + 1 := by
  obtain ⟨a, b, rfl, rfl, hl⟩ := up2 h0 h1 h2
  rw [i1, Nat.min_eq_left (Nat.le_trans (Nat.le_add_right ..) hl), Nat.add_comm 1 a]
  exact Int.ofNat_le.mpr (Nat.add_le_add_right (Nat.le_add_right ..) 1)

theorem bf_replace (w : World) (A : BufA) (hA : A.ok) (B : BufS) (S : GapS) (t : List Int) (n : Nat) (GT : GapT S t n) (K : MkS) (hr : RowsIs w A.M K.o) (x y : Int) (tx ty : Tok) (l h : Int) (mm : MinMax x y l h) (c : Addr) (vs : List Value) (ms : List Int) (k : Nat) (hv : IntsAre vs ms) (h0 : 1 ≤ B.begv) (h1 : B.begv ≤ l) (hlh : l ≤ h) (h2 : h ≤ B.zv) (h3 : B.zv ≤ t.length + 1) (h4 : n ≤ 900) (h5 : ms.length ≤ 40) (hc : NotIn A c) :
    Cal w 147 [.ref A.bx, .int x tx, .int y ty, .ref c] 20 200 (bufL w.params A B ++ gapL w.params A.G S ++ [(c, listOf vs.toArray k)] ++ mkL w.params A.M K) (X := BufS × GapS × MkS × Addr) (fun r => .ref r.2.2.2) (fun r => bufL w.params A r.1 ++ gapL w.params A.G r.2.1 ++ [(c, listOf vs.toArray k)] ++ mkL w.params A.M r.2.2.1) (fun _ r => Edit l h ms B r.1 K r.2.2.1 ∧ GapT r.2.1 (t.take (l - 1).toNat ++ ms ++ t.drop (h - 1).toNat) (n + 42)) := by
  have hfill : hd.heap_1 = hd.heap_1 ∧ PySem.Challenge.rw_pq0288_01 = PySem.Challenge.rw_pq0288_01 := by k_fill; exact ⟨rfl, rfl⟩
  clear hfill
  have mml : MinMax l h l h := .inl ⟨hlh, rfl, rfl⟩
  have hl1 : (l - 1).toNat ≤ t.length := Int.toNat_le.mpr (by omega)
  have hq := rp_room (t := t) (Int.le_trans h0 h1) hlh (Int.le_trans h2 h3)
  have hlt : ¬ l = h → l < h := fun e => Int.lt_iff_le_and_ne.mpr ⟨hlh, e⟩
  intro mean mg mb dp un gdd cn csc a ccd cll outer A₀ base h₀ L m s rest Q E B' F KX N off T hk hdp hun hret
  refine wpAny_call ?_
  k_dflt k_enter
  k_steps
  all_goals (try dsimp only)
  all_goals rename Fr _ _ _ _ => fE
  all_goals rename News _ _ _ _ => nE
  · rename l = h => e
    subst e
    rename Edit _ _ _ _ _ _ _ => eE
    rename GapT _ (_ ++ _) _ => gE
    exact Cal.done rest hret (_, _, _, _) fE nE (by (try dsimp only); nest_cls) ⟨eE, gE⟩
  · rename (ms.length : Int) = 0 => e0
    have e1 : ms = [] := List.eq_nil_of_length_eq_zero (by omega)
    subst e1
    rename Edit _ _ _ _ _ _ _ => eE
    rename GapT _ (_ ++ _) _ => gE
    exact Cal.done rest hret (_, _, _, _) fE nE (by (try dsimp only); nest_cls) ⟨eE, gE.mono (Nat.le_add_right _ _)⟩
  all_goals rename BufS.point _ = pIn _ _ _ => hi
  all_goals rename BufS.point _ = pOut _ _ _ => ho
  all_goals rename BufS.point _ = _ => hp
  all_goals rename MkS.by _ _ _ => kE
  all_goals rename GapT _ (_ ++ ms ++ _) _ => gE
  all_goals refine Cal.done rest hret (_, _, _, _) fE nE (by (try dsimp only); nest_cls) ⟨edit_rep (hlt (by assumption)) ?_ ?_ ?_ kE, gap_two hl1 gE⟩
  · (try dsimp only); omega
  · (try dsimp only); omega
  · (try dsimp only); unfold repP; rw [if_pos (by assumption)]; exact hp
  · (try dsimp only); omega
  · (try dsimp only); omega
  · (try dsimp only); unfold repP; rw [if_neg (by assumption), hp, hi, ho]

end Mine

end Lay23

section Lay24
open PySem PySem.Spec PySem.Calls PySem.W PyProof.Rows

theorem Mine.lay24 : True := by
  w_top off
  k_with "~L24:ktr_room" => k_extra "~w0"
  k_with "~L24:is_list" => k_extra "~w5"
  k_with "~L24:k_enter" => k_extra "~w52"
  k_with "~L24:top_caught0" => k_extra "~w53"
  k_with "~L24:k_ne" => k_extra "~w54"
  k_with "~L24:l_idx" => k_extra "~w55"
  k_with "~L24:ktr_room" => k_extra "~w2"
  k_with "~L24:ktr_units" => k_extra "~w2"
  k_with "~L24:ktr_room" => k_extra "~w3"
  k_with "~L24:ktr_units" => k_extra "~w4"
  k_with "~L24:k_mem" => k_extra "~w57"
  k_with "~L24:k_inst" => k_extra "~w59"
  k_with "~L24:tlg_ne" => k_extra "~w62"
  k_with "~L24:k_all" => k_extra "~w63"
  k_with "~L24:lcg_off" => k_extra "~w64"
  k_with "~L24:k_lt" => k_extra "~w65"
  k_with "~L24:k_upd" => k_extra "~w66"
  k_with "~L24:k_updF" => k_extra "~w67"
  k_with "~L24:setAttr ref" => k_extra "~w68"
  k_with "~L24:setAttr ref" => k_extra "~w69"
  k_with "~L24:setAttr ref" => k_extra "~w70"
  k_with "~L24:call ref" => k_extra "~w79"
  k_with "~L24:call ref" => k_extra "~w80"
  k_with "~L24:call ref" => k_extra "~w81"
  k_with "~L24:call ref" => k_extra "~w82"
  k_with "~L24:call ref" => k_extra "~w83"
  k_with "~L24:call ref" => k_extra "~w84"
  k_with "~L24:call ref" => k_extra "~w85"
  k_with "~L24:call ref" => k_extra "~w86"
  k_with "~L24:call ref" => k_extra "~w87"
  k_with "~L24:call ref" => k_extra "~w88"
  k_with "~L24:call ref" => k_extra "~w89"
  k_with "~L24:call ref" => k_extra "~w90"
  k_with "~L24:call ref" => k_extra "~w104"
  k_with "~L24:call ref" => k_extra "~w109"
  k_with "~L24:call ref" => k_extra "~w110"
  trivial

namespace Mine

theorem tr_len1 {t : List Int} {x z : Int} (h0 : 1 ≤ x) (h3 : z ≤ t.length + 1) (h : x ≤ z) : ((((t.drop (x - 1).toNat).take (z - x).toNat).length : Nat) : Int) = z - x := cut_len h0 h h3
theorem tr_len {t : List Int} {x y z : Int} (h1 : x < y) (h2 : y < z) (h3 : z ≤ t.length + 1) (h0 : 1 ≤ x) : ((((t.drop (y - 1).toNat).take (z - y).toNat ++ (t.drop (y - 1).toNat).take (y - y).toNat ++ (t.drop (x - 1).toNat).take (y - x).toNat).length : Nat) : Int) = z - x := by
  rw [Int.sub_self, show (0 : Int).toNat = 0 from rfl, List.take_zero, List.append_nil, List.length_append, Int.natCast_add, cut_len (Int.le_trans h0 (Int.le_of_lt h1)) (Int.le_of_lt h2) h3, cut_len h0 (Int.le_of_lt h1) (Int.le_trans (Int.le_of_lt h2) h3)]
  clear h0 h1 h2 h3; omega
theorem tr_same {t : List Int} {x z : Int} (h0 : 1 ≤ x) (h3 : z ≤ t.length + 1) (h : x ≤ z) : ((((t.drop (x - 1).toNat).take (z - x).toNat).length : Nat) : Int) - (z - x) = 0 := by
  rw [tr_len1 h0 h3 h, Int.sub_self]
theorem tr_gap {S : GapS} {t : List Int} {n : Nat} {x z : Int} (T : GapT S t n) (h0 : 1 ≤ x) (h : x ≤ z) : GapT S (t.take (x - 1).toNat ++ (t.drop (x - 1).toNat).take (z - x).toNat ++ t.drop (z - 1).toNat) (n + 42) := by
  have e : (z - 1).toNat = (x - 1).toNat + (z - x).toNat := by
    obtain ⟨a, rfl⟩ := up1 (n := 1) h0
    obtain ⟨b, rfl⟩ := up1 h
    rw [span, Nat.add_assoc, i1, i1, Int.toNat_natCast]
  rw [e, List.append_assoc, ← List.drop_drop, List.take_append_drop, List.take_append_drop]
  exact T.mono (Nat.le_add_right _ _)
theorem tr_40 {n m : Nat} {d : Int} (e : (n : Int) = d) (h : d ≤ m) (h' : m ≤ 40) : n ≤ 40 := by omega
theorem tr_m {a b c : Nat} (h : b ≤ 40) : min a (b - c) ≤ 40 := Nat.le_trans (Nat.min_le_right ..) (Nat.le_trans (Nat.sub_le ..) h)

theorem bf_transp (w : World) (A : BufA) (hA : A.ok) (B : BufS) (S : GapS) (t : List Int) (n : Nat) (GT : GapT S t n) (K : MkS) (hr : RowsIs w A.M K.o) (x y z : Int) (tx ty ty2 tz : Tok) (p1 p2 : Addr) (h0 : 1 ≤ B.begv) (h1 : B.begv ≤ x) (h2 : x < y) (h3 : y < z) (h4 : z ≤ B.zv) (h5 : B.zv ≤ t.length + 1) (h6 : n ≤ 900) (h7 : t.length ≤ 40) (hp1 : @LT.lt Nat _ A.M.m3 p1) (hp2 : @LT.lt Nat _ A.M.m3 p2) (hp3 : @LT.lt Nat _ p1 p2) :
    Cal w 168 [.ref A.bx, .ref p1, .ref p2] 30 300 (bufL w.params A B ++ gapL w.params A.G S ++ mkL w.params A.M K ++ [(p1, pairO x tx y ty), (p2, pairO y ty2 z tz)]) (X := BufS × GapS × MkS × List Int) (fun _ => .none) (fun r => bufL w.params A r.1 ++ gapL w.params A.G r.2.1 ++ mkL w.params A.M r.2.2.1) (fun _ r => Edit x z r.2.2.2 B r.1 K r.2.2.1 ∧ (r.2.2.2.length : Int) = z - x ∧ GapT r.2.1 (t.take (x - 1).toNat ++ r.2.2.2 ++ t.drop (z - 1).toNat) (n + 42)) := by
  have hfill : hd.heap_1 = hd.heap_1 ∧ PySem.Challenge.rw_pq0288_01 = PySem.Challenge.rw_pq0288_01 := by k_fill; exact ⟨rfl, rfl⟩
  clear hfill
  have mml : MinMax x y x y := .inl ⟨Int.le_of_lt h2, rfl, rfl⟩
  have mmr : MinMax y z y z := .inl ⟨Int.le_of_lt h3, rfl, rfl⟩
  have mmb : MinMax x z x z := .inl ⟨Int.le_of_lt (Int.lt_trans h2 h3), rfl, rfl⟩
  have hlen := tr_len (t := t) h2 h3 (by omega) (by omega)
  have hl40 := tr_40 hlen (by omega) h7
  have hxz : x ≤ z := by omega
  have hm1 := tr_m (a := (y - x).toNat) (c := (x - 1).toNat) h7
  have hm2 := tr_m (a := (z - y).toNat) (c := (y - 1).toNat) h7
  have hm3 := tr_m (a := (y - y).toNat) (c := (y - 1).toNat) h7
  intro mean mg mb dp un gdd cn csc a ccd cll outer A₀ base h₀ L m s rest Q E B' F KX N off T hk hdp hun hret
  refine wpAny_call ?_
  k_dflt k_enter
  k_steps
  all_goals (try dsimp only)
  all_goals rename Fr _ _ _ _ => fE
  all_goals rename News _ _ _ _ => nE
  · exact Cal.done rest hret (B, S, K, (t.drop (x - 1).toNat).take (z - x).toNat) fE nE (by (try dsimp only); nest_cls) ⟨edit_id (tr_same (by omega) (by omega) hxz), by rw [tr_len1 (by omega) (by omega) hxz], tr_gap GT (by omega) hxz⟩
  · rename Edit _ _ _ _ _ _ _ => eE
    rename GapT _ _ _ => gE
    exact Cal.done rest hret (_, _, _, _) fE nE (by (try dsimp only); nest_cls) ⟨eE, hlen, gE⟩

end Mine

end Lay24

section Lay25
open PySem PySem.Spec PySem.Calls PySem.W PyProof.Rows

theorem Mine.lay25 : True := by
  w_top off
  k_with "~L25:ktr_room" => k_extra "~w0"
  k_with "~L25:is_list" => k_extra "~w5"
  k_with "~L25:k_enter" => k_extra "~w52"
  k_with "~L25:top_caught0" => k_extra "~w53"
  k_with "~L25:k_ne" => k_extra "~w54"
  k_with "~L25:l_idx" => k_extra "~w55"
  k_with "~L25:ktr_room" => k_extra "~w2"
  k_with "~L25:ktr_units" => k_extra "~w2"
  k_with "~L25:ktr_room" => k_extra "~w3"
  k_with "~L25:ktr_units" => k_extra "~w4"
  k_with "~L25:k_mem" => k_extra "~w57"
  k_with "~L25:k_inst" => k_extra "~w59"
  k_with "~L25:tlg_ne" => k_extra "~w62"
  k_with "~L25:k_all" => k_extra "~w63"
  k_with "~L25:lcg_off" => k_extra "~w64"
  k_with "~L25:k_lt" => k_extra "~w65"
  k_with "~L25:k_upd" => k_extra "~w66"
  k_with "~L25:k_updF" => k_extra "~w67"
  k_with "~L25:setAttr ref" => k_extra "~w68"
  k_with "~L25:setAttr ref" => k_extra "~w69"
  k_with "~L25:setAttr ref" => k_extra "~w70"
  trivial

namespace Mine

theorem bf_transp2 (w : World) (A : BufA) (hA : A.ok) (B : BufS) (S : GapS) (t : List Int) (n : Nat) (GT : GapT S t n) (K : MkS) (hr : RowsIs w A.M K.o) (x y z : Int) (tx ty ty2 tz : Tok) (p1 p2 : Addr) (h0 : 1 ≤ B.begv) (h1 : B.begv ≤ x) (h2 : x < y) (h3 : y < z) (h4 : z ≤ B.zv) (h5 : B.zv ≤ t.length + 1) (h6 : n ≤ 900) (h7 : t.length ≤ 40) (hp1 : @LT.lt Nat _ A.M.m3 p1) (hp2 : @LT.lt Nat _ A.M.m3 p2) (hp3 : @LT.lt Nat _ p1 p2) :
    Cal w 168 [.ref A.bx, .ref p1, .ref p2] 30 300 (bufL w.params A B ++ gapL w.params A.G S ++ mkL w.params A.M K ++ ([(p1, { cls := .type "tuple", data := .seq #[.int x tx, .int y ty] })] ++ [(p2, { cls := .type "tuple", data := .seq #[.int y ty2, .int z tz] })])) (X := BufS × GapS × MkS × List Int) (fun _ => .none) (fun r => bufL w.params A r.1 ++ gapL w.params A.G r.2.1 ++ mkL w.params A.M r.2.2.1) (fun _ r => Edit x z r.2.2.2 B r.1 K r.2.2.1 ∧ (r.2.2.2.length : Int) = z - x ∧ GapT r.2.1 (t.take (x - 1).toNat ++ r.2.2.2 ++ t.drop (z - 1).toNat) (n + 42)) :=
  bf_transp w A hA B S t n GT K hr x y z tx ty ty2 tz p1 p2 h0 h1 h2 h3 h4 h5 h6 h7 hp1 hp2 hp3

theorem ne_below {D : Addr} {a l : List (Addr × Obj)} (h : ∀ p ∈ l, p.1 < D) (s : Sub a l) : ∀ p ∈ a, p.1 ≠ D := fun p hp e => Nat.lt_irrefl _ (Nat.lt_of_le_of_lt (Nat.le_of_eq e.symm) (h p (s p hp)))
theorem mm_l {x y : Int} (h : x ≤ y) : MinMax x y x y := .inl ⟨h, rfl, rfl⟩
theorem mm_r {x y : Int} (h : y ≤ x) : MinMax x y y x := .inr ⟨h, rfl, rfl⟩
theorem ml_codes {f : Int → Int} {k d : Int} (h : k < 4) (hd : 0 ≤ d) : (((List.map f (rangeKs 0 (k - 0).toNat)).length : Nat) : Int) ≤ 3 + d := by
  rw [List.length_map, rangeKs_length]; omega
theorem edit_same {l h : Int} {mid : List Int} {B B' : BufS} {K : MkS} (hs : B.same B') (e : (mid.length : Int) - (h - l) = 0) : Edit l h mid B B' K K :=
  ⟨hs.2.1, by rw [e, Int.add_zero]; exact hs.2.2, _, _, by rw [e]; exact mv_id l h, by_id K fun _ _ => rfl, hs.1⟩
theorem sub_gapT {S : GapS} {t t' : List Int} {n : Nat} {x z : Int} (T : GapT S t' n) (h0 : 1 ≤ x) (h : x ≤ z) (e1 : t'.take (x - 1).toNat = t.take (x - 1).toNat) (e2 : t'.drop (z - 1).toNat = t.drop (z - 1).toNat) : GapT S (t.take (x - 1).toNat ++ (t'.drop (x - 1).toNat).take (z - x).toNat ++ t.drop (z - 1).toNat) (n + 42) := by
  rw [← e1, ← e2]; exact tr_gap T h0 h
theorem tr_lenD {t : List Int} {x z : Int} (h0 : 1 ≤ x) (h3 : z ≤ t.length + 1) (h : x ≤ z) : ((((t.drop (x - 1).toNat).take (z - x).toNat).length : Nat) : Int) ≤ 3 + (z - x) := by
  rw [tr_len1 h0 h3 h]; omega
theorem ml_of {k d e : Int} (h : k = d) (h' : d ≤ 3 + e) : k ≤ 3 + e := by omega

end Mine

end Lay25

section Lay26
open PySem PySem.Spec PySem.Calls PySem.W PyProof.Rows

theorem Mine.lay26 : True := by
  w_top off
  k_with "~L26:ktr_room" => k_extra "~w0"
  k_with "~L26:is_list" => k_extra "~w5"
  k_with "~L26:k_enter" => k_extra "~w52"
  k_with "~L26:top_caught0" => k_extra "~w53"
  k_with "~L26:k_ne" => k_extra "~w54"
  k_with "~L26:l_idx" => k_extra "~w55"
  k_with "~L26:ktr_room" => k_extra "~w2"
  k_with "~L26:ktr_units" => k_extra "~w2"
  k_with "~L26:ktr_room" => k_extra "~w3"
  k_with "~L26:ktr_units" => k_extra "~w4"
  k_with "~L26:k_mem" => k_extra "~w57"
  k_with "~L26:k_inst" => k_extra "~w59"
  k_with "~L26:tlg_ne" => k_extra "~w62"
  k_with "~L26:k_all" => k_extra "~w63"
  k_with "~L26:lcg_off" => k_extra "~w64"
  k_with "~L26:k_lt" => k_extra "~w65"
  k_with "~L26:k_upd" => k_extra "~w66"
  k_with "~L26:k_updF" => k_extra "~w67"
  k_with "~L26:setAttr ref" => k_extra "~w68"
  k_with "~L26:setAttr ref" => k_extra "~w69"
  k_with "~L26:setAttr ref" => k_extra "~w70"
  k_with "~L26:call ref" => k_extra "~w79"
  k_with "~L26:call ref" => k_extra "~w80"
  k_with "~L26:call ref" => k_extra "~w81"
  k_with "~L26:call ref" => k_extra "~w82"
  k_with "~L26:call ref" => k_extra "~w83"
  k_with "~L26:call ref" => k_extra "~w84"
  k_with "~L26:call ref" => k_extra "~w85"
  k_with "~L26:call ref" => k_extra "~w86"
  k_with "~L26:call ref" => k_extra "~w87"
  k_with "~L26:call ref" => k_extra "~w88"
  k_with "~L26:call ref" => k_extra "~w89"
  k_with "~L26:call ref" => k_extra "~w90"
  k_with "~L26:call ref" => k_extra "~w104"
  k_with "~L26:call ref" => k_extra "~w111"
  k_with "~L26:call ref" => k_extra "~w112"
  trivial

namespace Mine

structure SubP (B : BufS) (t : List Int) (n : Nat) (x y : Int) (c : BufS × GapS × List Int × Int × Tok) : Prop where
  same : B.same c.1
  gap : GapT c.2.1 c.2.2.1 n
  len : c.2.2.1.length = t.length
  tk : c.2.2.1.take (x - 1).toNat = t.take (x - 1).toNat
  dp : c.2.2.1.drop (y - 1).toNat = t.drop (y - 1).toNat
theorem SubP.zero {B : BufS} {S : GapS} {t : List Int} {n : Nat} {x y m : Int} {k : Tok} (h : GapT S t n) : SubP B t n x y (B, S, t, m, k) := ⟨⟨rfl, rfl, rfl⟩, h, rfl, rfl, rfl⟩
theorem SubP.out {B B1 : BufS} {S1 : GapS} {t t1 : List Int} {n : Nat} {x y m : Int} {k : Tok} (h : SubP B t n x y (B1, S1, t1, m, k)) : B1.begv = B.begv ∧ B1.zv = B.zv ∧ GapT S1 t1 n ∧ t1.length = t.length := ⟨h.same.2.1, h.same.2.2, h.gap, h.len⟩
theorem SubP.step {B B1 B2 : BufS} {S1 S2 : GapS} {t t1 : List Int} {n : Nat} {x y p z m m' : Int} {k k' : Tok} (h : SubP B t n x y (B1, S1, t1, m, k)) (hs : B1.same B2) (hg : GapT S2 (t1.set (p - 1).toNat z) n) (h1 : x ≤ p) (h2 : p < y) (h0 : 1 ≤ x) :
    SubP B t n x y (B2, S2, t1.set (p - 1).toNat z, m', k') := by
  obtain ⟨a, b, c, d, e⟩ := h
  refine ⟨⟨hs.1.trans a.1, hs.2.1.trans a.2.1, hs.2.2.trans a.2.2⟩, hg, ?_, ?_, ?_⟩
  · show (t1.set _ _).length = _; rw [List.length_set]; exact c
  · show (t1.set _ _).take _ = _; rw [List.take_set_of_le (by omega)]; exact d
  · show (t1.set _ _).drop _ = _; rw [List.drop_set_of_lt (by omega)]; exact e

theorem bf_subst (w : World) (A : BufA) (hA : A.ok) (B : BufS) (S : GapS) (t : List Int) (n : Nat) (GT : GapT S t n) (x y one other : Int) (tx ty t1 t2 : Tok) (h0 : 1 ≤ B.begv) (h1 : B.begv ≤ x) (h2 : x ≤ y) (h3 : y ≤ B.zv) (h4 : B.zv ≤ t.length + 1) :
    Cal w 161 [.ref A.bx, .int x tx, .int y ty, .int one t1, .int other t2] 20 160 (bufL w.params A B ++ gapL w.params A.G S) (X := BufS × GapS × List Int × Int × Tok) (fun r => .int r.2.2.2.1 r.2.2.2.2) (fun r => bufL w.params A r.1 ++ gapL w.params A.G r.2.1) (fun _ r => B.same r.1 ∧ GapT r.2.1 r.2.2.1 n ∧ r.2.2.1.length = t.length ∧ r.2.2.1.take (x - 1).toNat = t.take (x - 1).toNat ∧ r.2.2.1.drop (y - 1).toNat = t.drop (y - 1).toNat) := by
  have hfill : hd.heap_1 = hd.heap_1 ∧ PySem.Challenge.rw_pq0288_01 = PySem.Challenge.rw_pq0288_01 := by k_fill; exact ⟨rfl, rfl⟩
  clear hfill
  have hsm := GT.small
  have mml : MinMax x y x y := .inl ⟨h2, rfl, rfl⟩
  k_with "~L26:pyIter ref" => (k_dflt (rename Fr _ _ _ _ => fE; rename News _ _ _ _ => nE; rename IsRange _ _ _ _ _ _ _ _ => rg; k_dflt refine' range_K (σ := BufS × GapS × List Int × Int × Tok) (fun c => bufL w.params A c.1 ++ gapL w.params A.G c.2.1) (fun c => [(Str.ofString "buffer", .ref A.bx), (Str.ofString "one", .int one t1), (Str.ofString "other", .int other t2), (Str.ofString "many", .int c.2.2.2.1 c.2.2.2.2)]) (fun _ c => SubP B t n x y c) (B, S, t, _, _) (fun _ _ => rfl) rfl rg ?h2 (rangeSize_nat _ _) fE nE ?h3 ?h4 ?h5 ?_ ?_; (case h2 => exact small_one (by omega) (by omega) (by omega) (by omega)); (case h3 => (try dsimp only); nest_cls); (case h4 => kst_all); (case h5 => exact SubP.zero GT); clear fE nE; (rotate_left; (rintro ⟨B1, S1, t3, m1, k1⟩ u h9 tk9 hP F9 N9; (try dsimp only at N9)); rotate_left; (rintro ⟨B1, S1, t3, m1, k1⟩ i9 t9 u h9 tk9 own hi9 ho9 hP F9 N9; (try dsimp only at N9); (have ob : OffB w.params A own := fun B => off_ofL (ho9 (B, S1, t3, m1, k1))); (have og : OffG w.params A.G own := fun S => off_ofR (ho9 (B1, S, t3, m1, k1))); obtain ⟨hq2, hq3, hq4, hq5⟩ := hP.out; (try dsimp only); (try k_fold)))))
  intro mean mg mb dp un gdd cn csc a ccd cll outer A₀ base h₀ L m s rest Q E B' F KX N off T hk hdp hun hret
  refine wpAny_call ?_
  k_dflt k_enter
  k_steps
  all_goals (try dsimp only [RgPost])
  all_goals rename Fr _ _ _ _ => fE
  all_goals rename News _ _ _ _ => nE
  · rename BufS.same _ _ => sE
    rename GapT _ (List.set _ _ _) _ => gE
    exact rg_end (_, _, List.set t3 _ other, _, _) fE nE (by (try dsimp only); nest_cls) (List.forall_mem_cons.mpr ⟨rfl, List.forall_mem_cons.mpr ⟨rfl, List.forall_mem_cons.mpr ⟨rfl, List.forall_mem_cons.mpr ⟨rfl, List.forall_mem_nil _⟩⟩⟩⟩) (hP.step sE gE (by omega) (by omega) (by omega))
  · exact rg_end (B1, S1, t3, m1, k1) fE nE (by (try dsimp only); nest_cls) (List.forall_mem_cons.mpr ⟨rfl, List.forall_mem_cons.mpr ⟨rfl, List.forall_mem_cons.mpr ⟨rfl, List.forall_mem_cons.mpr ⟨rfl, List.forall_mem_nil _⟩⟩⟩⟩) hP
  · exact rg_end (B1, S1, t3, m1, k1) fE nE (by (try dsimp only); nest_cls) (List.forall_mem_cons.mpr ⟨rfl, List.forall_mem_cons.mpr ⟨rfl, List.forall_mem_cons.mpr ⟨rfl, List.forall_mem_cons.mpr ⟨rfl, List.forall_mem_nil _⟩⟩⟩⟩) hP
  · exact Cal.done rest hret (B1, S1, t3, m1, k1) fE nE (by (try dsimp only); nest_cls) ⟨hP.same, hP.gap, hP.len, hP.tk, hP.dp⟩

end Mine

end Lay26

section Lay27
open PySem PySem.Spec PySem.Calls PySem.W PyProof.Rows

theorem Mine.lay27 : True := by
  w_top off
  k_with "~L27:ktr_room" => k_extra "~w0"
  k_with "~L27:k_ne" => k_extra "~w1"
  k_with "~L27:ktr_room" => k_extra "~w2"
  k_with "~L27:ktr_units" => k_extra "~w2"
  k_with "~L27:ktr_room" => k_extra "~w3"
  k_with "~L27:ktr_units" => k_extra "~w4"
  k_with "~L27:is_list" => k_extra "~w5"
  k_with "~L27:k_enter" => k_extra "~w20"
  k_with "~L27:k_subL" => k_extra "~w7"
  k_with "~L27:setItem ref ref" => k_extra "~w8"
  k_with "~L27:k_clsL" => k_extra "~w9"
  k_with "~L27:k_offL" => k_extra "~w21"
  k_with "~L27:k_clsL" => k_extra "~w22"
  k_with "~L27:k_subL" => k_extra "~w23"
  k_with "~L27:call ref" => k_extra "~w24"
  k_with "~L27:call ref" => k_extra "~w25"
  k_with "~L27:call ref" => k_extra "~w26"
  k_with "~L27:call ref" => k_extra "~w27"
  k_with "~L27:call builtin:sorted" => k_extra "~w28"
  k_with "~L27:call ref" => k_extra "~w29"
  k_with "~L27:call ref" => k_extra "~w30"
  k_with "~L27:call ref" => k_extra "~w31"
  k_with "~L27:call ref" => k_extra "~w32"
  k_with "~L27:call ref" => k_extra "~w33"
  k_with "~L27:call ref" => k_extra "~w34"
  k_with "~L27:call ref" => k_extra "~w35"
  k_with "~L27:call ref" => k_extra "~w36"
  k_with "~L27:call ref" => k_extra "~w37"
  k_with "~L27:call ref" => k_extra "~w38"
  k_with "~L27:call ref" => k_extra "~w39"
  k_with "~L27:call ref" => k_extra "~w40"
  k_with "~L27:call ref" => k_extra "~w41"
  k_with "~L27:call ref" => k_extra "~w42"
  k_with "~L27:call ref" => k_extra "~w43"
  k_with "~L27:call ref" => k_extra "~w44"
  k_with "~L27:call ref" => k_extra "~w45"
  k_with "~L27:call ref" => k_extra "~w46"
  k_with "~L27:call ref" => k_extra "~w47"
  k_with "~L27:call ref" => k_extra "~w48"
  k_with "~L27:call ref" => k_extra "~w49"
  k_with "~L27:call ref" => k_extra "~w50"
  k_with "~L27:call ref" => k_extra "~w51"
  k_with "~L27:call ref" => k_extra "~w113"
  k_with "~L27:call ref" => k_extra "~w114"
  k_with "~L27:call ref" => k_extra "~w115"
  k_with "~L27:call ref" => k_extra "~w116"
  trivial

namespace Mine

theorem bf_goto (w : World) (A : BufA) (hA : A.ok) (B : BufS) (x : Int) (tx : Tok) (hz : B.begv ≤ B.zv) :
    Cal w 475 [.ref A.bx, .int x tx] 4 40 (bufL w.params A B) (X := BufS × Tok) (fun r => .int r.1.point r.2) (fun r => bufL w.params A r.1) (fun _ r => r.1.begv = B.begv ∧ r.1.zv = B.zv ∧ r.1.point = min (max x B.begv) B.zv) := by
  have hfill : hd.heap_1 = hd.heap_1 ∧ PySem.Challenge.rw_pq0288_01 = PySem.Challenge.rw_pq0288_01 := by k_fill; exact ⟨rfl, rfl⟩
  clear hfill
  have hA' := hA.low
  obtain ⟨b1, b2, b3, b4, b5, b6, b7, b8⟩ := hA'
  have b9 : @LT.lt Nat _ A.dx A.ls := hA.lt 0 8 rfl rfl rfl
  intro mean mg mb dp un gdd cn csc a ccd cll outer A₀ base h₀ L m s rest Q E B' F KX N off T hk hdp hun hret
  refine wpAny_call ?_
  k_dflt k_enter
  k_steps
  all_goals (try dsimp only)
  all_goals rename Fr _ _ _ _ => fE
  all_goals rename News _ _ _ _ => nE
  refine Cal.done rest hret (⟨⟨_, _, _, _, _, _, _, _, _, _, _, _, _, _, _, _, _, _, _, _, _, _, _, _⟩, if B.zv < (if B.begv > x then B.begv else x) then B.zv else if B.begv > x then B.begv else x, if B.zv < (if B.begv > x then B.begv else x) then B.tz else if B.begv > x then B.tb else tx, _, _, _, _, _, _, _, _⟩, _) fE nE (sub_bufX (t := []) (by k_subL)) ⟨?_, ?_, ?_⟩
  · rfl
  · rfl
  · dsimp only; (repeat' split) <;> omega

end Mine

end Lay27

section Lay28
open PySem PySem.Spec PySem.Calls PySem.W PyProof.Rows

theorem Mine.lay28 : True := by
  w_top off
  k_with "~L28:ktr_room" => k_extra "~w0"
  k_with "~L28:is_list" => k_extra "~w5"
  k_with "~L28:k_enter" => k_extra "~w52"
  k_with "~L28:top_caught0" => k_extra "~w53"
  k_with "~L28:k_ne" => k_extra "~w54"
  k_with "~L28:l_idx" => k_extra "~w55"
  k_with "~L28:ktr_room" => k_extra "~w2"
  k_with "~L28:ktr_units" => k_extra "~w2"
  k_with "~L28:ktr_room" => k_extra "~w3"
  k_with "~L28:ktr_units" => k_extra "~w4"
  k_with "~L28:k_mem" => k_extra "~w57"
  k_with "~L28:k_inst" => k_extra "~w59"
  k_with "~L28:tlg_ne" => k_extra "~w62"
  k_with "~L28:k_all" => k_extra "~w63"
  k_with "~L28:lcg_off" => k_extra "~w64"
  k_with "~L28:k_lt" => k_extra "~w65"
  k_with "~L28:k_upd" => k_extra "~w66"
  k_with "~L28:k_updF" => k_extra "~w67"
  k_with "~L28:setAttr ref" => k_extra "~w68"
  k_with "~L28:setAttr ref" => k_extra "~w69"
  k_with "~L28:setAttr ref" => k_extra "~w70"
  k_with "~L28:call ref" => k_extra "~w79"
  k_with "~L28:call ref" => k_extra "~w80"
  k_with "~L28:call ref" => k_extra "~w81"
  k_with "~L28:call ref" => k_extra "~w82"
  k_with "~L28:call ref" => k_extra "~w83"
  k_with "~L28:call ref" => k_extra "~w84"
  k_with "~L28:call ref" => k_extra "~w85"
  k_with "~L28:call ref" => k_extra "~w86"
  k_with "~L28:call ref" => k_extra "~w87"
  k_with "~L28:call ref" => k_extra "~w88"
  k_with "~L28:call ref" => k_extra "~w89"
  k_with "~L28:call ref" => k_extra "~w90"
  k_with "~L28:call ref" => k_extra "~w94"
  k_with "~L28:call ref" => k_extra "~w117"
  trivial

namespace Mine

theorem bf_narrow (w : World) (A : BufA) (hA : A.ok) (B : BufS) (S : GapS) (t : List Int) (n : Nat) (GT : GapT S t n) (x y : Int) (tx ty : Tok) (h1 : 1 ≤ x) (h2 : x ≤ t.length + 1) (h3 : 1 ≤ y) (h4 : y ≤ t.length + 1) :
    Cal w 515 [.ref A.bx, .int x tx, .int y ty] 8 80 (bufL w.params A B ++ gapL w.params A.G S) (X := BufS) (fun _ => .none) (fun r => bufL w.params A r ++ gapL w.params A.G S) (fun _ r => r.begv = min x y ∧ r.zv = max x y ∧ r.point = min (max B.point (min x y)) (max x y)) := by
  have hfill : hd.heap_1 = hd.heap_1 ∧ PySem.Challenge.rw_pq0288_01 = PySem.Challenge.rw_pq0288_01 := by k_fill; exact ⟨rfl, rfl⟩
  clear hfill
  intro mean mg mb dp un gdd cn csc a ccd cll outer A₀ base h₀ L m s rest Q E B' F KX N off T hk hdp hun hret
  refine wpAny_call ?_
  k_dflt k_enter
  k_steps
  all_goals (try dsimp only)
  all_goals rename Fr _ _ _ _ => fE
  all_goals rename News _ _ _ _ => nE
  all_goals rename BufS.begv _ = _ => hb
  all_goals rename BufS.zv _ = _ => hz
  all_goals rename BufS.point _ = _ => hq
  refine Cal.done rest hret _ fE nE (by (try dsimp only); nest_cls) ⟨?_, ?_, ?_⟩
  · rw [hb, if_min]
  · rw [hz, if_max]
  · rw [hq, if_min, if_max]

theorem bf_widen (w : World) (A : BufA) (hA : A.ok) (B : BufS) (S : GapS) (t : List Int) (n : Nat) (GT : GapT S t n) :
    Cal w 522 [.ref A.bx] 8 80 (bufL w.params A B ++ gapL w.params A.G S) (X := BufS) (fun _ => .none) (fun r => bufL w.params A r ++ gapL w.params A.G S) (fun _ r => r.begv = 1 ∧ r.zv = t.length + 1 ∧ r.point = B.point) := by
  have hfill : hd.heap_1 = hd.heap_1 ∧ PySem.Challenge.rw_pq0288_01 = PySem.Challenge.rw_pq0288_01 := by k_fill; exact ⟨rfl, rfl⟩
  clear hfill
  intro mean mg mb dp un gdd cn csc a ccd cll outer A₀ base h₀ L m s rest Q E B' F KX N off T hk hdp hun hret
  refine wpAny_call ?_
  k_dflt k_enter
  k_steps
  all_goals (try dsimp only)
  all_goals rename Fr _ _ _ _ => fE
  all_goals rename News _ _ _ _ => nE
  refine Cal.done rest hret _ fE nE (by (try dsimp only); nest_cls) ⟨?_, ?_, ?_⟩
  · rfl
  · rfl
  · rfl

end Mine

end Lay28

section Lay29
open PySem PySem.Spec PySem.Calls PySem.W PyProof.Rows

theorem Mine.lay29 : True := by
  w_top off
  k_with "~L29:ktr_room" => k_extra "~w0"
  k_with "~L29:is_list" => k_extra "~w5"
  k_with "~L29:k_enter" => k_extra "~w52"
  k_with "~L29:top_caught0" => k_extra "~w53"
  k_with "~L29:k_ne" => k_extra "~w54"
  k_with "~L29:l_idx" => k_extra "~w55"
  k_with "~L29:ktr_room" => k_extra "~w2"
  k_with "~L29:ktr_units" => k_extra "~w2"
  k_with "~L29:ktr_room" => k_extra "~w3"
  k_with "~L29:ktr_units" => k_extra "~w4"
  k_with "~L29:k_mem" => k_extra "~w57"
  k_with "~L29:k_inst" => k_extra "~w59"
  k_with "~L29:tlg_ne" => k_extra "~w62"
  k_with "~L29:k_all" => k_extra "~w63"
  k_with "~L29:lcg_off" => k_extra "~w64"
  k_with "~L29:k_lt" => k_extra "~w65"
  k_with "~L29:k_upd" => k_extra "~w66"
  k_with "~L29:k_updF" => k_extra "~w67"
  k_with "~L29:setAttr ref" => k_extra "~w68"
  k_with "~L29:setAttr ref" => k_extra "~w69"
  k_with "~L29:setAttr ref" => k_extra "~w70"
  k_with "~L29:tlg_ne" => k_extra "~w118"
  k_with "~L29:k_lt" => k_extra "~w119"
  k_with "~L29:call ref" => k_extra "~w120"
  k_with "~L29:call ref" => k_extra "~w121"
  k_with "~L29:call ref" => k_extra "~w122"
  k_with "~L29:call ref" => k_extra "~w123"
  k_with "~L29:call ref" => k_extra "~w124"
  k_with "~L29:call ref" => k_extra "~w125"
  k_with "~L29:call ref" => k_extra "~w126"
  trivial

namespace Mine

structure EdR where
  r : Addr
  lo : Int
  t1 : Tok
  hi : Int
  t2 : Tok
  led : Bool
  nn : Nat
  vs : List Value
  ds : List Int
  nd : Nat
  B : BufS
  S : GapS
  K : MkS
  mid : List Int
structure EdOk (B : BufS) (K : MkS) (t : List Int) (n : Nat) (r : EdR) : Prop where
  hv : IntsAre r.vs r.ds
  hd : DeckOk r.ds
  lo : B.begv ≤ r.lo
  lh : r.lo ≤ r.hi
  hi : r.hi ≤ B.zv
  ml : (r.mid.length : Int) ≤ 3 + (r.hi - r.lo)
  gap : GapT r.S (t.take (r.lo - 1).toNat ++ r.mid ++ t.drop (r.hi - 1).toNat) (n + 42)
  ed : (r.led = false ∧ Edit r.lo r.hi r.mid B r.B K r.K) ∨ (r.led = true ∧ r.hi = r.lo ∧ r.B.begv = B.begv ∧ r.B.zv = B.zv + r.mid.length ∧ r.B.point = B.point + r.mid.length ∧ r.lo = B.point ∧ K.by r.K (insF r.lo (r.lo + r.mid.length) false))

theorem lw_edit (w : World) (A : BufA) (hA : A.ok) (B : BufS) (S : GapS) (t : List Int) (n : Nat) (GT : GapT S t n) (K : MkS) (hr : RowsIs w A.M K.o) (dk : Addr) (vs : List Value) (ds : List Int) (nd : Nat) (hv : IntsAre vs ds) (hD : DeckOk ds) (lap : Int) (tl : Tok) (h0 : 1 ≤ B.begv) (h1 : B.begv ≤ B.point) (h2 : B.point ≤ B.zv) (h3 : B.zv ≤ t.length + 1) (h4 : n ≤ 900) (h5 : t.length ≤ 40) (hdk : @LT.lt Nat _ dk A.dx) (hdm : @LT.lt Nat _ dk A.M.m3) (hl0 : 0 ≤ lap) (hl1 : lap ≤ 9) :
    Cal w 546 [.ref dk, .ref A.bx, .int lap tl] 40 500 ([(dk, listOf vs.toArray nd)] ++ (bufL w.params A B ++ gapL w.params A.G S ++ mkL w.params A.M K)) (X := EdR) (fun r => .ref r.r) (fun r => (r.r, listOf #[.int r.lo r.t1, .int r.hi r.t2, .bool r.led] r.nn) :: ([(dk, listOf r.vs.toArray r.nd)] ++ (bufL w.params A r.B ++ gapL w.params A.G r.S ++ mkL w.params A.M r.K)))
      (fun rest r => EdOk B K t n r ∧ ∀ p ∈ ([(dk, listOf r.vs.toArray r.nd)] ++ (bufL w.params A r.B ++ gapL w.params A.G r.S ++ mkL w.params A.M r.K)) ++ rest, p.1 < r.r) := by
  have hfill : hd.heap_1 = hd.heap_1 ∧ PySem.Challenge.rw_pq0288_01 = PySem.Challenge.rw_pq0288_01 := by k_fill; exact ⟨rfl, rfl⟩
  clear hfill
  intro mean mg mb dp un gdd cn csc a ccd cll outer A₀ base h₀ L m s rest Q E B' F KX N off T hk hdp hun hret
  have od := offD_of (off_ofL off)
  have ob := offB_of (off_ofL (off_ofL (off_ofR off)))
  have og := offG_of (off_ofR (off_ofL (off_ofR off)))
  have om := offM_of (off_ofR (off_ofR off))
  refine wpAny_call ?_
  k_dflt (refine' code_defC ?k1 ?k2 ?k3 ?k4 ?k5 ?kA ?kF ?kK ?k6 ?k7 ?k8 ?k9 ?kB ?kD ?_ ?c2 ?c3 ?c4; (case kA => exact rfl); (case kF => exact rfl); (case kK => assumption); (case k1 => k_asm); (case k2 => k_asm); (case k3 => k_asm); (case k4 => k_asm); (case k5 => k_asm); (case k6 => k_is); (case k7 => k_is); (case k8 => exact room0 hdp); (case k9 => exact BindsTo.of_eq rfl); (case kB => exact rfl); (case kD => decide +kernel); (case c2 => exact rfl); (case c3 => exact rfl); (case c4 => exact rfl); k_whole; intro g' L' h' tk' cells' FG' F' N' Y' B9 X' T' l1; (try k_lt l1); k_cells Y'; (try simp only [List.cons_append, List.nil_append] at N'); (try dsimp only); (try k_fold))
  have hbz : B.begv ≤ B.zv := Int.le_trans h1 h2
  have hdl : @Ne Nat dk (L' + 1) := by omega
  have hi8 : @LT.lt Nat _ A.M.m3 (L' + 1) := Nat.lt_succ_of_lt (by with_reducible assumption)
  k_steps
  all_goals rename Fr h₀ L _ m => kF
  all_goals rename News h₀ L _ _ => kN
  all_goals rename ∀ (p : Addr × Obj), p ∈ _ → p.1 < _ => lA
  all_goals rename DeckOk _ => hD9
  · (rename Edit _ _ _ _ _ _ _ => eE); (rename GapT _ (_ ++ _ ++ _) _ => gE); refine hret ⟨_, _, _, _, _, false, _, _, _, _, _, _, _, _⟩ _ _ ⟨⟨?_, hD9, ?_, ?_, ?_, ?_, gE, .inl ⟨rfl, eE⟩⟩, fun p hp => lA p ((show Sub _ _ by (try dsimp only); nest_cls) p hp)⟩ kF (News.sub kN (by (try dsimp only); nest_cls))
    · with_reducible assumption
    · (try dsimp only); top_caught0
    · (try dsimp only); top_caught0
    · (try dsimp only); top_caught0
    · (try dsimp only); exact ml_codes (by assumption) (by top_caught0)
  · (rename MkS.by _ _ _ => kE); (rename GapT _ (_ ++ _ ++ _) _ => gE); (rename BufS.begv _ = _ => hb); (rename BufS.zv _ = _ => hz); (rename BufS.point _ = _ => hp); refine hret ⟨_, _, _, _, _, true, _, _, _, _, _, _, _, _⟩ _ _ ⟨⟨?_, hD9, ?_, ?_, ?_, ?_, gE, .inr ⟨rfl, rfl, hb, hz, hp, rfl, kE⟩⟩, fun p hp => lA p ((show Sub _ _ by (try dsimp only); nest_cls) p hp)⟩ kF (News.sub kN (by (try dsimp only); nest_cls))
    · with_reducible assumption
    · (try dsimp only); top_caught0
    · (try dsimp only); top_caught0
    · (try dsimp only); top_caught0
    · (try dsimp only); exact ml_codes (by assumption) (by top_caught0)
  · (rename Edit _ _ _ _ _ _ _ => eE); (rename GapT _ (_ ++ _ ++ _) _ => gE); refine hret ⟨_, _, _, _, _, false, _, _, _, _, _, _, _, _⟩ _ _ ⟨⟨?_, hD9, ?_, ?_, ?_, ?_, gE.mono (Nat.le_add_right _ _), .inl ⟨rfl, eE⟩⟩, fun p hp => lA p ((show Sub _ _ by (try dsimp only); nest_cls) p hp)⟩ kF (News.sub kN (by (try dsimp only); nest_cls))
    · with_reducible assumption
    · (try dsimp only); top_caught0
    · (try dsimp only); top_caught0
    · (try dsimp only); top_caught0
    · (try dsimp only); rw [List.length_nil]; omega
  · (rename Edit _ _ _ _ _ _ _ => eE); (rename GapT _ (_ ++ _ ++ _) _ => gE); refine hret ⟨_, _, _, _, _, false, _, _, _, _, _, _, _, _⟩ _ _ ⟨⟨?_, hD9, ?_, ?_, ?_, ?_, gE, .inl ⟨rfl, eE⟩⟩, fun p hp => lA p ((show Sub _ _ by (try dsimp only); nest_cls) p hp)⟩ kF (News.sub kN (by (try dsimp only); nest_cls))
    · with_reducible assumption
    · (try dsimp only); top_caught0
    · (try dsimp only); top_caught0
    · (try dsimp only); top_caught0
    · (try dsimp only); exact ml_codes (by assumption) (by top_caught0)
  · (rename BufS.same _ _ ∧ _ => hu); refine hret ⟨_, _, _, _, _, false, _, _, _, _, _, _, _, _⟩ _ _ ⟨⟨?_, hD9, ?_, ?_, ?_, ?_, sub_gapT hu.2.1 (by top_caught0) (by top_caught0) hu.2.2.2.1 hu.2.2.2.2, .inl ⟨rfl, edit_same hu.1 (tr_same (by top_caught0) (by rw [hu.2.2.1]; omega) (by top_caught0))⟩⟩, fun p hp => lA p ((show Sub _ _ by (try dsimp only); nest_cls) p hp)⟩ kF (News.sub kN (by (try dsimp only); nest_cls))
    · with_reducible assumption
    · (try dsimp only); top_caught0
    · (try dsimp only); top_caught0
    · (try dsimp only); top_caught0
    · (try dsimp only); exact tr_lenD (by top_caught0) (by rw [hu.2.2.1]; omega) (by top_caught0)
  · (rename ((List.length _ : Nat) : Int) = _ => hl); (rename Edit _ _ _ _ _ _ _ => eE); (rename GapT _ (_ ++ _ ++ _) _ => gE); refine hret ⟨_, _, _, _, _, false, _, _, _, _, _, _, _, _⟩ _ _ ⟨⟨?_, hD9, ?_, ?_, ?_, ?_, gE, .inl ⟨rfl, eE⟩⟩, fun p hp => lA p ((show Sub _ _ by (try dsimp only); nest_cls) p hp)⟩ kF (News.sub kN (by (try dsimp only); nest_cls))
    · with_reducible assumption
    · (try dsimp only); top_caught0
    · (try dsimp only); top_caught0
    · (try dsimp only); top_caught0
    · (try dsimp only); exact ml_of hl (by top_caught0)
  · refine hret ⟨_, _, _, _, _, false, _, _, _, _, _, _, _, _⟩ _ _ ⟨⟨?_, hD9, ?_, ?_, ?_, ?_, tr_gap GT ?_ ?_, .inl ⟨rfl, edit_id (tr_same ?_ ?_ ?_)⟩⟩, fun p hp => lA p ((show Sub _ _ by (try dsimp only); nest_cls) p hp)⟩ kF (News.sub kN (by (try dsimp only); nest_cls))
    · with_reducible assumption
    · (try dsimp only); top_caught0
    · (try dsimp only); top_caught0
    · (try dsimp only); top_caught0
    · (try dsimp only); refine tr_lenD ?_ ?_ ?_ <;> top_caught0
    all_goals ((try dsimp only); top_caught0)
  · refine hret ⟨_, _, _, _, _, false, _, _, _, _, _, _, _, _⟩ _ _ ⟨⟨?_, hD9, ?_, ?_, ?_, ?_, tr_gap GT ?_ ?_, .inl ⟨rfl, edit_id (tr_same ?_ ?_ ?_)⟩⟩, fun p hp => lA p ((show Sub _ _ by (try dsimp only); nest_cls) p hp)⟩ kF (News.sub kN (by (try dsimp only); nest_cls))
    · with_reducible assumption
    · (try dsimp only); top_caught0
    · (try dsimp only); top_caught0
    · (try dsimp only); top_caught0
    · (try dsimp only); refine tr_lenD ?_ ?_ ?_ <;> top_caught0
    all_goals ((try dsimp only); top_caught0)

end Mine

end Lay29

section Lay30
open PySem PySem.Spec PySem.Calls PySem.W PyProof.Rows

theorem Mine.lay30 : True := by
  w_top off
  k_with "~L30:ktr_room" => k_extra "~w0"
  k_with "~L30:is_list" => k_extra "~w5"
  k_with "~L30:k_enter" => k_extra "~w52"
  k_with "~L30:top_caught0" => k_extra "~w53"
  k_with "~L30:k_ne" => k_extra "~w54"
  k_with "~L30:l_idx" => k_extra "~w55"
  k_with "~L30:ktr_room" => k_extra "~w2"
  k_with "~L30:ktr_units" => k_extra "~w2"
  k_with "~L30:ktr_room" => k_extra "~w3"
  k_with "~L30:ktr_units" => k_extra "~w4"
  k_with "~L30:k_mem" => k_extra "~w57"
  k_with "~L30:k_inst" => k_extra "~w59"
  k_with "~L30:tlg_ne" => k_extra "~w62"
  k_with "~L30:k_all" => k_extra "~w63"
  k_with "~L30:lcg_off" => k_extra "~w64"
  k_with "~L30:k_lt" => k_extra "~w65"
  k_with "~L30:k_upd" => k_extra "~w66"
  k_with "~L30:k_updF" => k_extra "~w67"
  k_with "~L30:setAttr ref" => k_extra "~w68"
  k_with "~L30:setAttr ref" => k_extra "~w69"
  k_with "~L30:setAttr ref" => k_extra "~w70"
  trivial

namespace Mine

/-! the plain laws: what an edit does, as the law asks it -/
def pairs (K : MkS) : List (Int × Bool) := [(K.r0.pos, K.r0.adv), (K.r1.pos, K.r1.adv), (K.r2.pos, K.r2.adv), (K.r3.pos, K.r3.adv)]
def sgn (x : Int × Bool) : Int := if x.2 = true then 1 else 0
theorem places_is (K : MkS) : places K = (pairs K).map (·.1) := rfl
theorem by_places {K K' : MkS} {f : Int → Bool → Int} (h : K.by K' f) : places K' = (pairs K).map (fun x => f x.1 x.2) := by
  obtain ⟨_, _, ⟨_, h0⟩, ⟨_, h1⟩, ⟨_, h2⟩, ⟨_, h3⟩⟩ := h
  unfold places
  rw [h0, h1, h2, h3]
  rfl
theorem by_sgn {K K' : MkS} {f : Int → Bool → Int} (h : K.by K' f) : (pairs K').map sgn = (pairs K).map sgn := by
  obtain ⟨_, _, ⟨_, h0⟩, ⟨_, h1⟩, ⟨_, h2⟩, ⟨_, h3⟩⟩ := h
  unfold pairs
  rw [h0, h1, h2, h3]
  rfl
theorem by_o {K K' : MkS} {f : Int → Bool → Int} (h : K.by K' f) : K'.o = K.o := h.2.1
section
variable {l h d : Int} {f : Int → Bool → Int} {g : Int → Int}
theorem mv_ord (M : Mv l h d f g) {p q : Int × Bool} (e : p.1 < q.1 ∨ (p.1 = q.1 ∧ sgn p ≤ sgn q)) : f p.1 p.2 ≤ f q.1 q.2 := by
  obtain ⟨p, a⟩ := p
  obtain ⟨q, b⟩ := q
  rcases e with e | ⟨e, e'⟩
  · exact M.mo p q a b e
  · dsimp only at e
    subst e
    refine M.so p a b fun ha => ?_
    subst ha
    cases b
    · exact absurd e' (show ¬ (1 : Int) ≤ 0 by decide)
    · rfl
theorem get_map {α : Type} (k : α → Int) (xs : List α) (i : Nat) (h : i < xs.length) : (xs.map k).getD i 0 = k xs[i] := by
  rw [List.getD_eq_getElem?_getD, List.getElem?_eq_getElem (by rw [List.length_map]; exact h), Option.getD_some, List.getElem_map]
theorem get_l (xs : List Int) (y : Int) (i : Nat) (h : i < xs.length) : (xs ++ [y]).getD i 0 = xs.getD i 0 := by
  rw [List.getD_eq_getElem?_getD, List.getD_eq_getElem?_getD, List.getElem?_append_left h]
theorem get_r (xs : List Int) (y : Int) : (xs ++ [y]).getD xs.length 0 = y := by
  rw [List.getD_eq_getElem?_getD, List.getElem?_append_right (Nat.le_refl _), Nat.sub_self]
  rfl
theorem kept_of (M : Mv l h d f g) (xs : List (Int × Bool)) (i j : Nat) (hi : i < xs.length) (hj : j < xs.length)
    (e : (xs.map (·.1)).getD i 0 < (xs.map (·.1)).getD j 0 ∨ ((xs.map (·.1)).getD i 0 = (xs.map (·.1)).getD j 0 ∧ (xs.map sgn).getD i 0 ≤ (xs.map sgn).getD j 0)) :
    (xs.map (fun x => f x.1 x.2)).getD i 0 ≤ (xs.map (fun x => f x.1 x.2)).getD j 0 := by
  rw [get_map _ _ _ hi, get_map _ _ _ hj] at e ⊢
  rw [get_map _ _ _ hi, get_map _ _ _ hj] at e
  exact mv_ord M e
theorem get_lm {α : Type} (k : α → Int) (xs : List α) (y : Int) (i : Nat) (h : i < xs.length) : (xs.map k ++ [y]).getD i 0 = k xs[i] :=
  (get_l _ y i (by rw [List.length_map]; exact h)).trans (get_map k xs i h)
theorem get_rm {α : Type} (k : α → Int) (xs : List α) (y : Int) : (xs.map k ++ [y]).getD xs.length 0 = y := by
  have h := get_r (xs.map k) y
  rwa [List.length_map] at h
theorem sgn_nn (x : Int × Bool) : 0 ≤ sgn x := by unfold sgn; split <;> decide
theorem kept_pt (M : Mv l h d f g) (xs : List (Int × Bool)) (p : Int) (i j : Nat) (hi : i < xs.length + 1) (hj : j < xs.length + 1)
    (e : (xs.map (·.1) ++ [p]).getD i 0 < (xs.map (·.1) ++ [p]).getD j 0 ∨ ((xs.map (·.1) ++ [p]).getD i 0 = (xs.map (·.1) ++ [p]).getD j 0 ∧ (xs.map sgn ++ [-1]).getD i 0 ≤ (xs.map sgn ++ [-1]).getD j 0)) :
    (xs.map (fun x => f x.1 x.2) ++ [g p]).getD i 0 ≤ (xs.map (fun x => f x.1 x.2) ++ [g p]).getD j 0 := by
  rcases Nat.lt_or_eq_of_le (Nat.le_of_lt_succ hi) with a | rfl <;> rcases Nat.lt_or_eq_of_le (Nat.le_of_lt_succ hj) with b | rfl
  · rw [get_lm _ _ _ _ a, get_lm _ _ _ _ b, get_lm _ _ _ _ a, get_lm _ _ _ _ b] at e
    rw [get_lm _ _ _ _ a, get_lm _ _ _ _ b]
    exact mv_ord M e
  · rw [get_lm _ _ _ _ a, get_rm, get_lm _ _ _ _ a, get_rm] at e
    rw [get_lm _ _ _ _ a, get_rm]
    rcases e with e | ⟨_, e⟩
    · exact M.fg _ _ _ e
    · exact absurd (Int.le_trans (sgn_nn _) e) (by decide)
  · rw [get_rm, get_lm _ _ _ _ b] at e
    rw [get_rm, get_lm _ _ _ _ b]
    rcases e with e | ⟨e, _⟩
    · exact M.gm _ _ _ e
    · rw [e]; exact M.gf _ _
  · exact Int.le_refl _
theorem mv_in (M : Mv l h d f g) {n p : Int} (a : Bool) (b0 : 1 ≤ l) (b1 : l ≤ h) (b2 : h ≤ n + 1) (b3 : 0 ≤ h + d - l) (h1 : 1 ≤ p) (h2 : p ≤ n + 1) : 1 ≤ f p a ∧ f p a ≤ n + d + 1 := by
  rcases Int.lt_or_le p l with x | x
  · rw [M.lo p a x]; omega
  · rcases Int.lt_or_le h p with y | y
    · rw [M.hi p a y]; omega
    · have := M.mi p a x y; omega
theorem mv_gin (M : Mv l h d f g) {lo hi p : Int} (b0 : lo ≤ l) (b1 : l ≤ h) (b2 : h ≤ hi) (b3 : 0 ≤ h + d - l) (h1 : lo ≤ p) (h2 : p ≤ hi) : lo ≤ g p ∧ g p ≤ hi + d := by
  rcases Int.lt_or_le p l with x | x
  · rw [M.glo p x]; omega
  · rcases Int.lt_or_le h p with y | y
    · rw [M.ghi p y]; omega
    · have := M.gmi p x y; omega
end
section
variable {t mid : List Int} {lo hi : Int}
/-- the places of the stretch as natural numbers -/
theorem ut_nat (h0 : 1 ≤ lo) (h1 : lo ≤ hi) (h2 : hi ≤ t.length + 1) : ∃ a b c : Nat, lo = ((1 + a : Nat) : Int) ∧ hi = ((1 + (a + b) : Nat) : Int) ∧ t.length = a + b + c ∧ (t.take a).length = a := by
  obtain ⟨a, b, e1, e2, h⟩ := up2 h0 h1 h2
  obtain ⟨c, hc⟩ := Nat.exists_eq_add_of_le h
  exact ⟨a, b, c, e1, e2, hc, List.length_take_of_le (Nat.le_trans (Nat.le_add_right ..) h)⟩
theorem shift (a b j m : Nat) : ((a + b + j : Nat) : Int) + ((m : Int) - (b : Int)) = ((a + m + j : Nat) : Int) := by omega
theorem ut_len (h0 : 1 ≤ lo) (h1 : lo ≤ hi) (h2 : hi ≤ t.length + 1) : ((t.take (lo - 1).toNat ++ mid ++ t.drop (hi - 1).toNat).length : Int) = t.length + (mid.length - (hi - lo)) := by
  obtain ⟨a, b, c, rfl, rfl, hc, ha⟩ := ut_nat h0 h1 h2
  rw [span2, i1, i1, List.length_append, List.length_append, ha, List.length_drop, hc, Nat.add_sub_cancel_left]
  exact (shift ..).symm
theorem ut_take (h0 : 1 ≤ lo) (h1 : lo ≤ hi) (h2 : hi ≤ t.length + 1) {k : Nat} (hk : k ≤ (lo - 1).toNat) : (t.take (lo - 1).toNat ++ mid ++ t.drop (hi - 1).toNat).take k = t.take k := by
  obtain ⟨a, b, c, rfl, rfl, hc, ha⟩ := ut_nat h0 h1 h2
  rw [i1] at hk
  rw [i1, List.append_assoc, List.take_append_of_le_length (by rw [ha]; exact hk), List.take_take, Nat.min_eq_left hk]
theorem ut_drop (h0 : 1 ≤ lo) (h1 : lo ≤ hi) (h2 : hi ≤ t.length + 1) {k : Nat} (hk : (hi - 1).toNat ≤ k) : (t.take (lo - 1).toNat ++ mid ++ t.drop (hi - 1).toNat).drop ((k : Int) + (mid.length - (hi - lo))).toNat = t.drop k := by
  obtain ⟨a, b, c, rfl, rfl, hc, ha⟩ := ut_nat h0 h1 h2
  rw [i1] at hk
  obtain ⟨j, rfl⟩ := Nat.exists_eq_add_of_le hk
  rw [span2, i1, i1, shift]
  exact (drop_add_app (by rw [List.length_append, ha])).trans List.drop_drop
theorem cut_is (t : List Int) {x y : Int} : cut t x y = List.drop (x - 1).toNat (List.take (y - 1).toNat t) := by
  unfold cut
  rw [← List.drop_take]
  congr 1
  rcases Nat.le_total (y - 1).toNat t.length with a | a
  · rw [Nat.min_eq_left a]
  · rw [Nat.min_eq_right a, List.take_length, List.take_of_length_le a]
theorem ut_cut1 (h0 : 1 ≤ lo) (h1 : lo ≤ hi) (h2 : hi ≤ t.length + 1) {x y : Int} (hy : y < lo) : cut (t.take (lo - 1).toNat ++ mid ++ t.drop (hi - 1).toNat) x y = cut t x y := by
  rw [cut_is, cut_is, ut_take h0 h1 h2 (Int.toNat_le_toNat (Int.sub_le_sub_right (Int.le_of_lt hy) 1))]
theorem shift1 (a b j m : Nat) : ((1 + (a + b) + j : Nat) : Int) + ((m : Int) - (b : Int)) = ((1 + (a + m + j) : Nat) : Int) := by omega
theorem ut_cut2 (h0 : 1 ≤ lo) (h1 : lo ≤ hi) (h2 : hi ≤ t.length + 1) {x y : Int} (hx : hi < x) (hxy : x ≤ y) (hy : y ≤ t.length + 1) :
    cut (t.take (lo - 1).toNat ++ mid ++ t.drop (hi - 1).toNat) (x + (mid.length - (hi - lo))) (y + (mid.length - (hi - lo))) = cut t x y := by
  have hx := Int.le_of_lt hx
  obtain ⟨a, b, c, rfl, rfl, hc, ha⟩ := ut_nat h0 h1 h2
  clear h0 h1 h2
  obtain ⟨j, rfl⟩ := up1 hx
  obtain ⟨q, rfl⟩ := up1 hxy
  have k : a + b + (j + q) ≤ t.length := by clear hc ha hx hxy; omega
  clear hx hxy hy
  have k2 : j + q ≤ c := by rw [hc] at k; exact Nat.le_of_add_le_add_left k
  have el : (t.take a ++ mid).length = a + mid.length := by rw [List.length_append, ha]
  rw [span2, i1, i1, Nat.add_assoc (1 + (a + b)) j q, shift1, shift1]
  unfold cut
  rw [i1, i1, Nat.add_assoc 1, Nat.add_assoc 1, i1, i1, Nat.min_eq_left k, Nat.min_eq_left, drop_add_app el, List.drop_drop, Nat.add_sub_add_left, Nat.add_sub_add_left]
  rw [List.length_append, el, List.length_drop, hc, Nat.add_sub_cancel_left]
  exact Nat.add_le_add_left k2 _
end

end Mine

namespace Mine

/-- what the law asks of an edit -/
structure Asked (B : BufS) (K : MkS) (t : List Int) (r : EdR) (u : List Int) : Prop where
  ul : (u.length : Int) ≤ t.length + 3
  sg : (pairs r.K).map sgn = (pairs K).map sgn
  ro : r.K.o = K.o
  H4 : ∀ i j : Nat, i < ((places K ++ [B.point]).take 4).length → j < ((places K ++ [B.point]).take 4).length → (((places K ++ [B.point]).take 4).getD i 0 < ((places K ++ [B.point]).take 4).getD j 0 ∨ (((places K ++ [B.point]).take 4).getD i 0 = ((places K ++ [B.point]).take 4).getD j 0 ∧ ((pairs K).map sgn).getD i 0 ≤ ((pairs K).map sgn).getD j 0)) → ((places r.K ++ [r.B.point]).take 4).getD i 0 ≤ ((places r.K ++ [r.B.point]).take 4).getD j 0
  H5 : r.led = false → ∀ i j : Nat, i < (places K ++ [B.point]).length → j < (places K ++ [B.point]).length → ((places K ++ [B.point]).getD i 0 < (places K ++ [B.point]).getD j 0 ∨ ((places K ++ [B.point]).getD i 0 = (places K ++ [B.point]).getD j 0 ∧ ((pairs K).map sgn ++ [-1]).getD i 0 ≤ ((pairs K).map sgn ++ [-1]).getD j 0)) → (places r.K ++ [r.B.point]).getD i 0 ≤ (places r.K ++ [r.B.point]).getD j 0
  HP : ∀ k ∈ places r.K ++ [r.B.point], 1 ≤ k ∧ k ≤ (u.length : Int) + 1
  z0 : 1 ≤ r.B.begv
  z1 : r.B.begv ≤ r.B.point
  z2 : r.B.point ≤ r.B.zv
  z3 : r.B.zv ≤ u.length + 1
  lo0 : 1 ≤ r.lo
  lo1 : r.lo ≤ t.length + 1
  re0 : 0 ≤ (t.length : Int) + 1 - r.hi
  re1 : (t.length : Int) + 1 - r.hi ≤ t.length
  re2 : (t.length : Int) + 1 - r.hi ≤ u.length
  S1 : u.take (r.lo - 1).toNat = t.take (r.lo - 1).toNat
  S2 : u.drop ((u.length : Int) - ((t.length : Int) + 1 - r.hi)).toNat = t.drop ((t.length : Int) - ((t.length : Int) + 1 - r.hi)).toNat
  C1 : ∀ i j : Nat, i < 4 → j < 4 → (places K ++ [B.point]).getD i 0 ≤ (places K ++ [B.point]).getD j 0 → (places K ++ [B.point]).getD j 0 < r.lo → cut u ((places r.K ++ [r.B.point]).getD i 0) ((places r.K ++ [r.B.point]).getD j 0) = cut t ((places K ++ [B.point]).getD i 0) ((places K ++ [B.point]).getD j 0)
  C2 : ∀ i j : Nat, i < 4 → j < 4 → r.hi < (places K ++ [B.point]).getD i 0 → (places K ++ [B.point]).getD i 0 ≤ (places K ++ [B.point]).getD j 0 → cut u ((places r.K ++ [r.B.point]).getD i 0) ((places r.K ++ [r.B.point]).getD j 0) = cut t ((places K ++ [B.point]).getD i 0) ((places K ++ [B.point]).getD j 0)
theorem get_of {xs : List Int} {P : Int → Prop} (h : ∀ k ∈ xs, P k) (i : Nat) (hi : i < xs.length) : P (xs.getD i 0) := by
  rw [List.getD_eq_getElem?_getD, List.getElem?_eq_getElem hi, Option.getD_some]
  exact h _ (List.getElem_mem hi)
theorem asked {B : BufS} {K : MkS} {t : List Int} {n : Nat} {r : EdR} (h : EdOk B K t n r) (z0 : 1 ≤ B.begv) (z1 : B.begv ≤ B.point) (z2 : B.point ≤ B.zv) (z3 : B.zv ≤ t.length + 1) (pos : ∀ p ∈ places K, 1 ≤ p ∧ p ≤ (t.length : Int) + 1) :
    Asked B K t r (t.take (r.lo - 1).toNat ++ r.mid ++ t.drop (r.hi - 1).toNat) := by
  obtain ⟨_, _, b1, b2, b3, b4, _, ed⟩ := h
  have x0 : 1 ≤ r.lo := by omega
  have x3 : r.hi ≤ t.length + 1 := by omega
  have ul := ut_len (mid := r.mid) x0 b2 x3
  obtain ⟨f, g, M, kb, zb, zz, hp⟩ : ∃ f g, Mv r.lo r.hi ((r.mid.length : Int) - (r.hi - r.lo)) f g ∧ K.by r.K f ∧ r.B.begv = B.begv ∧ r.B.zv = B.zv + ((r.mid.length : Int) - (r.hi - r.lo)) ∧ ((r.led = false ∧ r.B.point = g B.point) ∨ (r.led = true ∧ r.B.point = B.point + r.mid.length ∧ r.hi = r.lo ∧ r.lo = B.point)) := by
    rcases ed with ⟨e1, e2, e3, f, g, e4, e5, e6⟩ | ⟨e1, e2, e3, e4, e5, e6, e7⟩
    · exact ⟨f, g, e4, e5, e2, e3, .inl ⟨e1, e6⟩⟩
    · refine ⟨_, pIn r.lo r.mid.length, ?_, e7, e3, by rw [e4, e2]; omega, .inr ⟨e1, e5, e2, e6⟩⟩
      rw [e2, Int.sub_self, Int.sub_zero]
      exact mv_ins (Int.natCast_nonneg _) false
  have ep := by_places kb
  have d0 : 0 ≤ r.hi + ((r.mid.length : Int) - (r.hi - r.lo)) - r.lo := by omega
  have pp : B.begv ≤ r.B.point ∧ r.B.point ≤ B.zv + ((r.mid.length : Int) - (r.hi - r.lo)) := by
    rcases hp with ⟨_, e⟩ | ⟨_, e, e2, e3⟩
    · rw [e]; exact mv_gin M b1 b2 b3 d0 z1 z2
    · omega
  have hP : ∀ k ∈ places r.K, 1 ≤ k ∧ k ≤ (t.length : Int) + ((r.mid.length : Int) - (r.hi - r.lo)) + 1 := by
    intro k hk
    rw [ep] at hk
    obtain ⟨x, hx, rfl⟩ := List.mem_map.mp hk
    have := pos x.1 (places_is K ▸ List.mem_map.mpr ⟨x, hx, rfl⟩)
    exact mv_in M x.2 x0 b2 x3 d0 this.1 this.2
  have l4 : (places K).length = 4 := rfl
  have l5 : (places r.K).length = 4 := rfl
  have gk : ∀ i : Nat, i < 4 → ∃ p a, 1 ≤ p ∧ p ≤ (t.length : Int) + 1 ∧ (places K ++ [B.point]).getD i 0 = p ∧ (places r.K ++ [r.B.point]).getD i 0 = f p a := by
    intro i hi
    have hx : i < (pairs K).length := hi
    have hp := get_of (P := fun p => 1 ≤ p ∧ p ≤ (t.length : Int) + 1) pos i hi
    rw [places_is, get_map _ _ _ hx] at hp
    refine ⟨(pairs K)[i].1, (pairs K)[i].2, hp.1, hp.2, ?_, ?_⟩
    · rw [get_l _ _ _ hi, places_is, get_map _ _ _ hx]
    · rw [get_l _ _ _ hi, ep, get_map _ _ _ hx]
  refine ⟨by omega, by_sgn kb, by_o kb, ?_, ?_, ?_, by omega, by omega, by omega, by omega, x0, by omega, by omega, by omega, by omega, ut_take x0 b2 x3 (Nat.le_refl _), ?_, ?_, ?_⟩
  · intro i j hi hj e
    rw [List.take_left' l4] at hi hj e
    rw [List.take_left' l5, ep]
    exact kept_of M (pairs K) i j hi hj e
  · intro hl i j hi hj e
    rcases hp with ⟨_, e'⟩ | ⟨e', _⟩
    · rw [e', ep]
      exact kept_pt M (pairs K) B.point i j hi hj e
    · rw [hl] at e'; cases e'
  · intro k hk
    rcases List.mem_append.mp hk with hk | hk
    · have := hP k hk; omega
    · rcases List.mem_singleton.mp hk with rfl; omega
  · have e1 : ((t.take (r.lo - 1).toNat ++ r.mid ++ t.drop (r.hi - 1).toNat).length : Int) - ((t.length : Int) + 1 - r.hi) = (((r.hi - 1).toNat : Nat) : Int) + ((r.mid.length : Int) - (r.hi - r.lo)) := by
      rw [Int.toNat_of_nonneg (Int.sub_nonneg_of_le (Int.le_trans x0 b2))]; omega
    have e2 : ((t.length : Int) - ((t.length : Int) + 1 - r.hi)).toNat = (r.hi - 1).toNat := congrArg Int.toNat (by clear e1; omega)
    rw [e1, ut_drop x0 b2 x3 (Nat.le_refl _), e2]
  · intro i j hi hj e1 e2
    obtain ⟨p, a, _, _, p3, p4⟩ := gk i hi
    obtain ⟨q, b, _, _, q3, q4⟩ := gk j hj
    rw [p3, q3] at e1
    rw [q3] at e2
    rw [p3, p4, q3, q4, M.lo p a (by omega), M.lo q b e2]
    exact ut_cut1 x0 b2 x3 e2
  · intro i j hi hj e1 e2
    obtain ⟨p, a, _, _, p3, p4⟩ := gk i hi
    obtain ⟨q, b, _, q2, q3, q4⟩ := gk j hj
    rw [p3, q3] at e2
    rw [p3] at e1
    rw [p3, p4, q3, q4, M.hi p a e1, M.hi q b (by omega)]
    exact ut_cut2 x0 b2 x3 e1 e2 q2

end Mine

end Lay30

section Lay31
open PySem PySem.Spec PySem.Calls PySem.W PyProof.Rows

theorem Mine.lay31 : True := by
  w_top off
  k_with "~L31:ktr_room" => k_extra "~w0"
  k_with "~L31:is_list" => k_extra "~w5"
  k_with "~L31:k_enter" => k_extra "~w52"
  k_with "~L31:top_caught0" => k_extra "~w53"
  k_with "~L31:k_ne" => k_extra "~w54"
  k_with "~L31:l_idx" => k_extra "~w55"
  k_with "~L31:ktr_room" => k_extra "~w2"
  k_with "~L31:ktr_units" => k_extra "~w2"
  k_with "~L31:ktr_room" => k_extra "~w3"
  k_with "~L31:ktr_units" => k_extra "~w4"
  k_with "~L31:k_mem" => k_extra "~w57"
  k_with "~L31:k_inst" => k_extra "~w59"
  k_with "~L31:tlg_ne" => k_extra "~w62"
  k_with "~L31:k_all" => k_extra "~w63"
  k_with "~L31:lcg_off" => k_extra "~w64"
  k_with "~L31:k_lt" => k_extra "~w65"
  k_with "~L31:k_upd" => k_extra "~w66"
  k_with "~L31:k_updF" => k_extra "~w67"
  k_with "~L31:setAttr ref" => k_extra "~w68"
  k_with "~L31:setAttr ref" => k_extra "~w69"
  k_with "~L31:setAttr ref" => k_extra "~w70"
  k_with "~L31:subscriptTail Name Name ref int" => k_extra "~w127"
  trivial

namespace Mine

theorem kept_no1 {es ls rs : List Int} {i j : Nat} (H : ∀ i j : Nat, i < es.length → j < es.length → (es.getD i 0 < es.getD j 0 ∨ (es.getD i 0 = es.getD j 0 ∧ rs.getD i 0 ≤ rs.getD j 0)) → ls.getD i 0 ≤ ls.getD j 0)
    (a : es.getD (0 + (i : Int)).toNat 0 < es.getD (0 + (j : Int)).toNat 0) (b : ls.getD (0 + (j : Int)).toNat 0 < ls.getD (0 + (i : Int)).toNat 0) (hi : i < ((es.length : Int) - 0).toNat) (hj : j < ((es.length : Int) - 0).toNat) : False := by
  have := H (0 + (i : Int)).toNat (0 + (j : Int)).toNat (by omega) (by omega) (.inl a)
  omega
theorem kept_no2 {es ls rs : List Int} {i j : Nat} (H : ∀ i j : Nat, i < es.length → j < es.length → (es.getD i 0 < es.getD j 0 ∨ (es.getD i 0 = es.getD j 0 ∧ rs.getD i 0 ≤ rs.getD j 0)) → ls.getD i 0 ≤ ls.getD j 0)
    (a : es.getD (0 + (i : Int)).toNat 0 = es.getD (0 + (j : Int)).toNat 0) (c : rs.getD (0 + (i : Int)).toNat 0 ≤ rs.getD (0 + (j : Int)).toNat 0) (b : ls.getD (0 + (j : Int)).toNat 0 < ls.getD (0 + (i : Int)).toNat 0) (hi : i < ((es.length : Int) - 0).toNat) (hj : j < ((es.length : Int) - 0).toNat) : False := by
  have := H (0 + (i : Int)).toNat (0 + (j : Int)).toNat (by omega) (by omega) (.inr ⟨a, c⟩)
  omega

theorem lw_kept (w : World) (e l r : Addr) (evs lvs rvs : List Value) (es ls rs : List Int) (ne nl nr : Nat) (he : IntsAre evs es) (hl : IntsAre lvs ls) (hs : IntsAre rvs rs) (h1 : ls.length = es.length) (h2 : rs.length = es.length) (hn : es.length ≤ 5)
    (H : ∀ i j : Nat, i < es.length → j < es.length → (es.getD i 0 < es.getD j 0 ∨ (es.getD i 0 = es.getD j 0 ∧ rs.getD i 0 ≤ rs.getD j 0)) → ls.getD i 0 ≤ ls.getD j 0) :
    Cal w 553 [.ref e, .ref l, .ref r] 8 80 ([(e, listOf evs.toArray ne)] ++ ([(l, listOf lvs.toArray nl)] ++ [(r, listOf rvs.toArray nr)])) (X := Unit) (fun _ => .bool true) (fun _ => [(e, listOf evs.toArray ne)] ++ ([(l, listOf lvs.toArray nl)] ++ [(r, listOf rvs.toArray nr)])) (fun _ _ => True) := by
  have hfill : hd.heap_1 = hd.heap_1 ∧ PySem.Challenge.rw_pq0288_01 = PySem.Challenge.rw_pq0288_01 := by k_fill; exact ⟨rfl, rfl⟩
  clear hfill
  have hE := he.length
  have hsm : Builtin.Range.small 0 (es.length : Int) 1 = true := small_one (by omega) (by omega) (by omega) (by omega)
  have hw : es.length ≤ 1000 := by omega
  clear hn
  k_with "~L31:pyIter ref" => (k_dflt (first | (rename Fr _ _ _ _ => fE; rename News _ _ _ _ => nE; rename IsRange _ _ _ _ _ _ _ _ => rg; k_dflt refine' range_K (σ := Unit) (fun _ => [(e, listOf evs.toArray ne)] ++ ([(l, listOf lvs.toArray nl)] ++ [(r, listOf rvs.toArray nr)]) ++ own) (fun _ => [(Str.ofString "elder", .ref e), (Str.ofString "later", .ref l), (Str.ofString "sorts", .ref r), (Str.ofString "at", .int _ _)]) (fun _ _ => True) () (fun _ _ => rfl) rfl rg ?h2 (rangeSize_nat _ _) fE nE ?h3 ?h4 trivial ?_ ?_; (case h2 => exact hsm); (case h3 => (try dsimp only); nest_cls); (case h4 => kst_all); clear fE nE; (rotate_left; (rintro c1 u h9 tk9 hP F9 N9; (try dsimp only at N9)); rotate_left; (rintro c1 i9 t9 u h9 tk9 own hi9 ho9 hP F9 N9; (try dsimp only at N9); (try dsimp only); (try k_fold)))) | (rename Fr _ _ _ _ => fE; rename News _ _ _ _ => nE; rename IsRange _ _ _ _ _ _ _ _ => rg; k_dflt refine' range_K (σ := Unit) (fun _ => [(e, listOf evs.toArray ne)] ++ ([(l, listOf lvs.toArray nl)] ++ [(r, listOf rvs.toArray nr)])) (fun _ => [(Str.ofString "elder", .ref e), (Str.ofString "later", .ref l), (Str.ofString "sorts", .ref r)]) (fun _ _ => True) () (fun _ _ => rfl) rfl rg ?h2 (rangeSize_nat _ _) fE nE ?h3 ?h4 trivial ?_ ?_; (case h2 => exact hsm); (case h3 => (try dsimp only); nest_cls); (case h4 => kst_all); clear fE nE; (rotate_left; (rintro c1 u h9 tk9 hP F9 N9; (try dsimp only at N9)); rotate_left; (rintro c1 i9 t9 u h9 tk9 own hi9 ho9 hP F9 N9; (try dsimp only at N9); (try dsimp only); (try k_fold))))))
  intro mean mg mb dp un gdd cn csc a ccd cll outer A₀ base h₀ L m s rest Q E B' F KX N off T hk hdp hun hret
  refine wpAny_call ?_
  k_dflt k_enter
  k_steps
  all_goals (try dsimp only [RgPost])
  all_goals rename Fr _ _ _ _ => fE
  all_goals rename News _ _ _ _ => nE
  · exact (kept_no1 H (by assumption) (by assumption) (by assumption) (by assumption)).elim
  · exact rg_end () fE nE (by (try dsimp only); nest_cls) (List.forall_mem_cons.mpr ⟨rfl, List.forall_mem_cons.mpr ⟨rfl, List.forall_mem_cons.mpr ⟨rfl, List.forall_mem_cons.mpr ⟨rfl, List.forall_mem_nil _⟩⟩⟩⟩) trivial
  · exact (kept_no2 H (by assumption) (by assumption) (by assumption) (by assumption) (by assumption)).elim
  · exact rg_end () fE nE (by (try dsimp only); nest_cls) (List.forall_mem_cons.mpr ⟨rfl, List.forall_mem_cons.mpr ⟨rfl, List.forall_mem_cons.mpr ⟨rfl, List.forall_mem_cons.mpr ⟨rfl, List.forall_mem_nil _⟩⟩⟩⟩) trivial
  · exact rg_end () fE nE (by (try dsimp only); nest_cls) (List.forall_mem_cons.mpr ⟨rfl, List.forall_mem_cons.mpr ⟨rfl, List.forall_mem_cons.mpr ⟨rfl, List.forall_mem_cons.mpr ⟨rfl, List.forall_mem_nil _⟩⟩⟩⟩) trivial
  · exact rg_end () fE nE (by (try dsimp only); nest_cls) (List.forall_mem_cons.mpr ⟨rfl, List.forall_mem_cons.mpr ⟨rfl, List.forall_mem_cons.mpr ⟨rfl, List.forall_mem_cons.mpr ⟨rfl, List.forall_mem_nil _⟩⟩⟩⟩) trivial
  · exact rg_end () fE nE (by (try dsimp only); nest_cls) (List.forall_mem_cons.mpr ⟨rfl, List.forall_mem_cons.mpr ⟨rfl, List.forall_mem_cons.mpr ⟨rfl, List.forall_mem_nil _⟩⟩⟩) trivial
  · exact Cal.done rest hret () fE nE (by (try dsimp only); nest_cls) trivial

end Mine

end Lay31

section Lay32
open PySem PySem.Spec PySem.Calls PySem.W PyProof.Rows

theorem Mine.lay32 : True := by
  w_top off
  k_with "~L32:ktr_room" => k_extra "~w0"
  k_with "~L32:is_list" => k_extra "~w5"
  k_with "~L32:k_enter" => k_extra "~w52"
  k_with "~L32:top_caught0" => k_extra "~w53"
  k_with "~L32:k_ne" => k_extra "~w54"
  k_with "~L32:l_idx" => k_extra "~w55"
  k_with "~L32:ktr_room" => k_extra "~w2"
  k_with "~L32:ktr_units" => k_extra "~w2"
  k_with "~L32:ktr_room" => k_extra "~w3"
  k_with "~L32:ktr_units" => k_extra "~w4"
  k_with "~L32:k_mem" => k_extra "~w57"
  k_with "~L32:k_inst" => k_extra "~w59"
  k_with "~L32:tlg_ne" => k_extra "~w62"
  k_with "~L32:k_all" => k_extra "~w63"
  k_with "~L32:lcg_off" => k_extra "~w64"
  k_with "~L32:k_lt" => k_extra "~w65"
  k_with "~L32:k_upd" => k_extra "~w66"
  k_with "~L32:k_updF" => k_extra "~w67"
  k_with "~L32:setAttr ref" => k_extra "~w68"
  k_with "~L32:setAttr ref" => k_extra "~w69"
  k_with "~L32:setAttr ref" => k_extra "~w70"
  k_with "~L32:lcg_off" => k_extra "~w128"
  k_with "~L32:tlg_ne" => k_extra "~w129"
  k_with "~L32:k_inst" => k_extra "~w130"
  k_with "~L32:tlg_ne" => k_extra "~w118"
  k_with "~L32:k_lt" => k_extra "~w119"
  k_with "~L32:exec For Name Call cons nil" => k_extra "~w131"
  k_with "~L32:pyIter ref" => k_extra "~w132"
  k_with "~L32:UnrEnd" => k_extra "~w133"
  k_with "~L32:call ref" => k_extra "~w134"
  k_with "~L32:call ref" => k_extra "~w135"
  k_with "~L32:call ref" => k_extra "~w136"
  k_with "~L32:call ref" => k_extra "~w137"
  k_with "~L32:k_upd" => k_extra "~w138"
  k_with "~L32:call builtin:list.append" => k_extra "~w139"
  k_with "~L32:subscriptTail" => k_extra "~w140"
  trivial

namespace Mine

abbrev lawEnv (L a : Addr) (cd : Value) : Env := envOfC (Str.ofString "law") lawScope L a cd
theorem law_num (w : World) (A : BufA) (hA : Low A) {h₀ : Heap} {mean : ExcName → Option Value} {mg mb : Str → Option Value} {s : Shared} {E : Value → Shared → Prop} {Q : Flow → Shared → Prop} (L a : Addr) (cd : Value) (u : Str → Option Value)
    (kX : (hd.heap_1 w.params).In h₀) (kT : Top H.qv (looseW H.qv LS) mean mg mb h₀) (kB : Below callerA h₀ [] h₀)
    (dk ow so I : Addr) (it : Obj) (X : List (Addr × Obj)) (i : Nat) (ti : Tok) (vs : List Value) (ds : List Int) (nd no ns : Nat) (hv : IntsAre vs ds) (hD : DeckOk ds) (ws sv : List Value) (sg : List Int) (hsv : IntsAre sv sg) (B : BufS) (S : GapS) (t : List Int) (n : Nat) (GT : GapT S t n) (kt : Tok) (o : Obj) (kvs : List (Int × Value)) (ho : o.IsDictOf (PySem.intKind PG w) kvs) (hkv : kvs.length ≤ 4) (ht : t.length ≤ 40) (hwi : ws.length = i) (hi4 : i < 4) (hsi : sv.length = i)
    (F : Fr h₀ L s.heap (fun y => if y = Str.ofString "number" then some (.int (0 + (i : Int)) ti) else kstB u [(Str.ofString "deck", .ref dk), (Str.ofString "buffer", .ref A.bx), (Str.ofString "own", .ref ow), (Str.ofString "sorts", .ref so)] y))
    (N : News h₀ L s.heap ([(I, it)] ++ ([(dk, listOf vs.toArray nd)] ++ ([(ow, listOf ws.toArray no)] ++ ([(so, listOf sv.toArray ns)] ++ (bufL w.params A B ++ gapL w.params A.G S ++ rowsL w.params A.M kt o ++ X))))))
    (hdk : @LT.lt Nat _ dk A.dx) (h1 : @LT.lt Nat _ A.ls ow) (h2 : @LT.lt Nat _ ow so) (h3 : @LT.lt Nat _ so I) (oX1 : OffB w.params A X) (oX2 : OffG w.params A.G X) (oX3 : OffR w.params A.M X) (oX4 : OffD dk X) (oX5 : ∀ p ∈ X, p.1 ≠ ow) (oX6 : ∀ p ∈ X, p.1 ≠ so)
    (hQ : ∀ (m d : Addr) (r : MkR) (b : Bool) (vs' : List Value) (ds' : List Int) (nd' : Nat) (o' : Obj) (ts : Tok) h' tk m', (∀ p ∈ [(Str.ofString "deck", Value.ref dk), (Str.ofString "buffer", .ref A.bx), (Str.ofString "own", .ref ow), (Str.ofString "sorts", .ref so)], m' p.1 = some p.2) →
      IntsAre vs' ds' → DeckOk ds' → (∀ p ∈ X, p.1 < d) → @LT.lt Nat _ I d → @LT.lt Nat _ d m → r.adv = b → 1 ≤ r.pos → r.pos ≤ t.length + 1 → o'.IsDictOf (PySem.intKind PG w) (stored kvs (0 + (i : Int)) (.ref m)) → Fr h₀ L h' m' →
      News h₀ L h' ([(m, instObj 332 d), (d, dictOf (mkD w.params r) 4)] ++ (bufL w.params A B ++ gapL w.params A.G S ++ rowsL w.params A.M kt o') ++ ([(dk, listOf vs'.toArray nd')] ++ ([(I, it)] ++ ([(ow, listOf (ws.toArray.push (.ref m)) (no + 1))] ++ ([(so, listOf (sv.toArray.push (.int (if b = true then 1 else 0) ts)) (ns + 1))] ++ X))))) → Q .next { s with heap := h', toks := tk }) :
    wpAny (model PG w) (callerA.deeper (lawEnv L a cd)) (execs numBody (lawEnv L a cd)) Q E s := by
  have hfill : hd.heap_1 = hd.heap_1 ∧ PySem.Challenge.rw_pq0288_01 = PySem.Challenge.rw_pq0288_01 := by k_fill; exact ⟨rfl, rfl⟩
  clear hfill
  have q0 : @LT.lt Nat _ A.dx A.ls := low_dx hA
  unfold lawEnv
  conv in numBody => whnf
  conv in (occs := *) lawScope => all_goals whnf
  k_steps
  all_goals rename Fr _ _ _ _ => fE
  all_goals rename News _ _ _ _ => nE
  rename Obj.IsDictOf _ _ (stored _ _ _) => hd9
  rename DeckOk _ => hD9
  rename MkR.num _ = 0 + (i : Int) => hn9
  rename ∀ (p : Addr × Obj), p ∈ _ → p.1 < Prod.fst (Prod.snd _) => lA
  refine hQ _ _ _ _ _ _ _ _ _ _ _ _ (List.forall_mem_cons.mpr ⟨rfl, List.forall_mem_cons.mpr ⟨rfl, List.forall_mem_cons.mpr ⟨rfl, List.forall_mem_cons.mpr ⟨rfl, List.forall_mem_nil _⟩⟩⟩⟩) ?_ hD9 ?_ ?_ ?_ ?_ ?_ ?_ ?_ fE (News.sub nE (by (try dsimp only); nest_cls))
  · with_reducible assumption
  · exact fun p hp => lA p ((show Sub X _ by nest_cls) p hp)
  · omega
  · with_reducible assumption
  · with_reducible assumption
  · omega
  · omega
  · rw [← hn9]; exact hd9

end Mine

end Lay32

section Lay33
open PySem PySem.Spec PySem.Calls PySem.W PyProof.Rows

theorem Mine.lay33 : True := by
  w_top off
  k_with "~L33:ktr_room" => k_extra "~w0"
  k_with "~L33:is_list" => k_extra "~w5"
  k_with "~L33:k_enter" => k_extra "~w52"
  k_with "~L33:top_caught0" => k_extra "~w53"
  k_with "~L33:k_ne" => k_extra "~w54"
  k_with "~L33:l_idx" => k_extra "~w55"
  k_with "~L33:ktr_room" => k_extra "~w2"
  k_with "~L33:ktr_units" => k_extra "~w2"
  k_with "~L33:ktr_room" => k_extra "~w3"
  k_with "~L33:ktr_units" => k_extra "~w4"
  k_with "~L33:k_mem" => k_extra "~w57"
  k_with "~L33:k_inst" => k_extra "~w59"
  k_with "~L33:tlg_ne" => k_extra "~w62"
  k_with "~L33:k_all" => k_extra "~w63"
  k_with "~L33:lcg_off" => k_extra "~w64"
  k_with "~L33:k_lt" => k_extra "~w65"
  k_with "~L33:k_upd" => k_extra "~w66"
  k_with "~L33:k_updF" => k_extra "~w67"
  k_with "~L33:setAttr ref" => k_extra "~w68"
  k_with "~L33:setAttr ref" => k_extra "~w69"
  k_with "~L33:setAttr ref" => k_extra "~w70"
  trivial

namespace Mine

/-! the markers made so far, in the order of their making -/
def marksL (P : Params) : List (Addr × Addr × MkR) → List (Addr × Obj)
  | [] => []
  | x :: ms => (x.1, instObj 332 x.2.1) :: (x.2.1, dictOf (mkD P x.2.2) 4) :: marksL P ms
def MsOk : Nat → List (Addr × Addr × MkR) → Prop
  | _, [] => True
  | z, x :: ms => @LT.lt Nat _ z x.2.1 ∧ @LT.lt Nat _ x.2.1 x.1 ∧ MsOk x.1 ms
theorem marks_app {P : Params} : ∀ (a : List (Addr × Addr × MkR)) (x : Addr × Addr × MkR), marksL P (a ++ [x]) = marksL P a ++ [(x.1, instObj 332 x.2.1), (x.2.1, dictOf (mkD P x.2.2) 4)]
  | [], _ => rfl
  | y :: a, x => by show _ :: _ :: marksL P (a ++ [x]) = _; rw [marks_app a x]; rfl
theorem MsOk.gt {P : Params} : ∀ {ms : List (Addr × Addr × MkR)} {z : Nat}, MsOk z ms → ∀ p ∈ marksL P ms, @LT.lt Nat _ z p.1
  | [], _, _, _, h => nomatch h
  | x :: ms, z, hm, p, h => by
    rcases List.mem_cons.mp h with rfl | h
    · exact Nat.lt_trans hm.1 hm.2.1
    rcases List.mem_cons.mp h with rfl | h
    · exact hm.1
    · exact Nat.lt_trans (Nat.lt_trans hm.1 hm.2.1) (MsOk.gt hm.2.2 p h)
theorem MsOk.app {P : Params} : ∀ {ms : List (Addr × Addr × MkR)} {z : Nat} {x : Addr × Addr × MkR}, MsOk z ms → @LT.lt Nat _ z x.2.1 → (∀ p ∈ marksL P ms, p.1 < x.2.1) → @LT.lt Nat _ x.2.1 x.1 → MsOk z (ms ++ [x])
  | [], _, _, _, h1, _, h2 => ⟨h1, h2, trivial⟩
  | y :: ms, z, x, hm, h1, h, h2 => ⟨hm.1, hm.2.1, MsOk.app (P := P) hm.2.2 (h (y.1, instObj 332 y.2.1) List.mem_cons_self) (fun p hp => h p (List.mem_cons_of_mem _ (List.mem_cons_of_mem _ hp))) h2⟩
section
variable {P : Params} {A : BufA} {ms : List (Addr × Addr × MkR)} {z : Nat} {X : List (Addr × Obj)} {D : Addr}
theorem marks_ne (h : MsOk z ms) (hD : @LE.le Nat _ D z) : ∀ p ∈ marksL P ms, p.1 ≠ D := fun p hp e => Nat.lt_irrefl _ (Nat.lt_of_le_of_lt (Nat.le_trans (Nat.le_of_eq e) hD) (MsOk.gt h p hp))
theorem app_ne {a b : List (Addr × Obj)} (h1 : ∀ p ∈ a, p.1 ≠ D) (h2 : ∀ p ∈ b, p.1 ≠ D) : ∀ p ∈ a ++ b, p.1 ≠ D := fun p hp => (List.mem_append.mp hp).elim (h1 p) (h2 p)
theorem offD_marks (h : MsOk z ms) (hD : @LE.le Nat _ D z) (hX : OffD D X) : OffD D (marksL P ms ++ X) := fun o => off_appR (off_cons (marks_ne h hD) (off_none _)) (hX o)
theorem off_gtL {a : List (Addr × Obj)} (h : MsOk z ms) (ha : ∀ D : Addr, @LT.lt Nat _ A.ls D → ∀ p ∈ a, p.1 ≠ D) (hz : @LE.le Nat _ A.ls z) : Off a (marksL P ms) := fun p hp q hq => ha q.1 (Nat.lt_of_le_of_lt hz (MsOk.gt h q hq)) p hp
theorem offB_marks (hA : Low A) (h : MsOk z ms) (hz : @LE.le Nat _ A.ls z) (hX : OffB P A X) : OffB P A (marksL P ms ++ X) := fun B => off_appR (off_gtL h (fun _ hD => lhi_buf hA hD) hz) (hX B)
theorem offG_marks (hA : Low A) (h : MsOk z ms) (hz : @LE.le Nat _ A.ls z) (hX : OffG P A.G X) : OffG P A.G (marksL P ms ++ X) := fun S => off_appR (off_gtL h (fun _ hD => lhi_gap hA hD) hz) (hX S)
theorem offR_marks (hA : Low A) (h : MsOk z ms) (hz : @LE.le Nat _ A.ls z) (hX : OffR P A.M X) : OffR P A.M (marksL P ms ++ X) := fun k o => off_appR (off_gtL h (fun _ hD => lhi_rows hA hD) hz) (hX k o)
end
def kvsOf : Nat → List (Addr × Addr × MkR) → List (Int × Value)
  | _, [] => []
  | k, x :: ms => ((k : Int), .ref x.1) :: kvsOf (k + 1) ms
theorem kvs_app : ∀ (k : Nat) (ms : List (Addr × Addr × MkR)) (x : Addr × Addr × MkR), kvsOf k (ms ++ [x]) = kvsOf k ms ++ [(((k + ms.length : Nat) : Int), Value.ref x.1)]
  | k, [], x => rfl
  | k, y :: ms, x => by
    have e : kvsOf k (y :: ms ++ [x]) = ((k : Int), Value.ref y.1) :: kvsOf (k + 1) (ms ++ [x]) := rfl
    rw [e, kvs_app (k + 1) ms x, List.length_cons, Nat.add_right_comm]
    rfl
theorem kvs_lt : ∀ (k : Nat) (ms : List (Addr × Addr × MkR)) (kv : Int × Value), kv ∈ kvsOf k ms → kv.1 < (k + ms.length : Nat)
  | _, [], _, h => nomatch h
  | k, y :: ms, kv, h => by
    rcases List.mem_cons.mp h with rfl | h
    · show (k : Int) < ((k + (ms.length + 1) : Nat) : Int); omega
    · have := kvs_lt (k + 1) ms kv h
      show kv.1 < ((k + (ms.length + 1) : Nat) : Int); omega
theorem kvs_store {ms : List (Addr × Addr × MkR)} {x : Addr × Addr × MkR} {i : Nat} (hi : ms.length = i) : stored (kvsOf 0 ms) (0 + (i : Int)) (.ref x.1) = kvsOf 0 (ms ++ [x]) := by
  have hn : (kvsOf 0 ms).any (fun kv => decide (kv.1 = 0 + (i : Int))) = false := by
    rw [List.any_eq_false]
    intro kv hkv
    have := kvs_lt 0 ms kv hkv
    simp only [decide_eq_true_eq]
    omega
  unfold stored
  rw [if_neg (by rw [hn]; exact Bool.false_ne_true), kvs_app]
  have e : ((0 + ms.length : Nat) : Int) = 0 + (i : Int) := by omega
  rw [e]
theorem kvs_len : ∀ (k : Nat) (ms : List (Addr × Addr × MkR)), (kvsOf k ms).length = ms.length
  | _, [] => rfl
  | k, _ :: ms => by show (kvsOf (k + 1) ms).length + 1 = _; rw [kvs_len (k + 1) ms]; rfl

end Mine

end Lay33

section Lay34
open PySem PySem.Spec PySem.Calls PySem.W PyProof.Rows

theorem Mine.lay34 : True := by
  w_top off
  k_with "~L34:ktr_room" => k_extra "~w0"
  k_with "~L34:is_list" => k_extra "~w5"
  k_with "~L34:k_enter" => k_extra "~w52"
  k_with "~L34:top_caught0" => k_extra "~w53"
  k_with "~L34:k_ne" => k_extra "~w54"
  k_with "~L34:l_idx" => k_extra "~w55"
  k_with "~L34:ktr_room" => k_extra "~w2"
  k_with "~L34:ktr_units" => k_extra "~w2"
  k_with "~L34:ktr_room" => k_extra "~w3"
  k_with "~L34:ktr_units" => k_extra "~w4"
  k_with "~L34:k_mem" => k_extra "~w57"
  k_with "~L34:k_inst" => k_extra "~w59"
  k_with "~L34:tlg_ne" => k_extra "~w62"
  k_with "~L34:k_all" => k_extra "~w63"
  k_with "~L34:lcg_off" => k_extra "~w64"
  k_with "~L34:k_lt" => k_extra "~w65"
  k_with "~L34:k_upd" => k_extra "~w66"
  k_with "~L34:k_updF" => k_extra "~w67"
  k_with "~L34:setAttr ref" => k_extra "~w68"
  k_with "~L34:setAttr ref" => k_extra "~w69"
  k_with "~L34:setAttr ref" => k_extra "~w70"
  k_with "~L34:lcg_off" => k_extra "~w128"
  k_with "~L34:tlg_ne" => k_extra "~w129"
  k_with "~L34:k_inst" => k_extra "~w130"
  k_with "~L34:tlg_ne" => k_extra "~w118"
  k_with "~L34:k_lt" => k_extra "~w119"
  k_with "~L34:exec For Name Call cons nil" => k_extra "~w131"
  k_with "~L34:pyIter ref" => k_extra "~w132"
  k_with "~L34:UnrEnd" => k_extra "~w133"
  k_with "~L34:call ref" => k_extra "~w134"
  k_with "~L34:call ref" => k_extra "~w135"
  k_with "~L34:call ref" => k_extra "~w136"
  k_with "~L34:call ref" => k_extra "~w137"
  k_with "~L34:k_upd" => k_extra "~w138"
  k_with "~L34:call builtin:list.append" => k_extra "~w139"
  k_with "~L34:subscriptTail" => k_extra "~w140"
  trivial

namespace Mine

theorem one_ne {D : Addr} {p : Addr × Obj} (h : p.1 ≠ D) : ∀ q ∈ [p], q.1 ≠ D := fun q hq => (List.mem_singleton.mp hq) ▸ h

structure NumS where
  vs : List Value
  ds : List Int
  nd : Nat
  ms : List (Addr × Addr × MkR)
  ws : List Value
  no : Nat
  sv : List Value
  ns : Nat
  o : Obj
def numLed (P : Params) (A : BufA) (B : BufS) (S : GapS) (kt : Tok) (dk ow so : Addr) (X : List (Addr × Obj)) (c : NumS) : List (Addr × Obj) :=
  [(dk, listOf c.vs.toArray c.nd)] ++ ([(ow, listOf c.ws.toArray c.no)] ++ ([(so, listOf c.sv.toArray c.ns)] ++ (bufL P A B ++ gapL P A.G S ++ rowsL P A.M kt c.o ++ (marksL P c.ms ++ X))))
structure NumOk (w : World) (A : BufA) (len : Nat) (so I : Addr) (i : Nat) (c : NumS) : Prop where
  hI : @LT.lt Nat _ so I
  hv : IntsAre c.vs c.ds
  hD : DeckOk c.ds
  li : c.ms.length = i
  ws : c.ws = c.ms.map fun x => .ref x.1
  sv : IntsAre c.sv (c.ms.map fun x => if x.2.2.adv = true then 1 else 0)
  ho : c.o.IsDictOf (PySem.intKind PG w) (kvsOf 0 c.ms)
  ok : MsOk I c.ms
  pos : ∀ x ∈ c.ms, 1 ≤ x.2.2.pos ∧ x.2.2.pos ≤ (len : Int) + 1
theorem law_turn (w : World) (A : BufA) (hA : Low A) {h₀ : Heap} {mean : ExcName → Option Value} {mg mb : Str → Option Value} {s : Shared} {E : Value → Shared → Prop} (L a : Addr) (cd : Value) (u : Str → Option Value)
    (kX : (hd.heap_1 w.params).In h₀) (kT : Top H.qv (looseW H.qv LS) mean mg mb h₀) (kB : Below callerA h₀ [] h₀)
    (dk ow so I : Addr) (it : Obj) (X : List (Addr × Obj)) (i : Nat) (ti : Tok) (c : NumS) (B : BufS) (S : GapS) (t : List Int) (n : Nat) (GT : GapT S t n) (kt : Tok) (ht : t.length ≤ 40) (hi4 : i < 4) (hP : NumOk w A t.length so I i c)
    (F : Fr h₀ L s.heap (fun y => if y = Str.ofString "number" then some (.int (0 + (i : Int)) ti) else kstB u [(Str.ofString "deck", .ref dk), (Str.ofString "buffer", .ref A.bx), (Str.ofString "own", .ref ow), (Str.ofString "sorts", .ref so)] y))
    (N : News h₀ L s.heap ([(I, it)] ++ numLed w.params A B S kt dk ow so X c))
    (hdk : @LT.lt Nat _ dk A.dx) (h1 : @LT.lt Nat _ A.ls ow) (h2 : @LT.lt Nat _ ow so) (oX1 : OffB w.params A X) (oX2 : OffG w.params A.G X) (oX3 : OffR w.params A.M X) (oX4 : OffD dk X) (oX5 : ∀ p ∈ X, p.1 ≠ ow) (oX6 : ∀ p ∈ X, p.1 ≠ so) (oX7 : ∀ p ∈ X, p.1 < A.dx) :
    wpAny (model PG w) (callerA.deeper (lawEnv L a cd)) (execs numBody (lawEnv L a cd)) (GrowPost h₀ L I it (numLed w.params A B S kt dk ow so X) (fun _ => [(Str.ofString "deck", .ref dk), (Str.ofString "buffer", .ref A.bx), (Str.ofString "own", .ref ow), (Str.ofString "sorts", .ref so)]) (NumOk w A t.length so I) s i) E s := by
  obtain ⟨hI, hv, hD, li, ew, hsv, ho, ok, pos⟩ := hP
  have q0 : @LT.lt Nat _ A.dx A.ls := low_dx hA
  have z1 : @LE.le Nat _ A.ls I := by omega
  have z2 : @LE.le Nat _ dk I := by omega
  refine law_num w A hA L a cd u kX kT kB dk ow so I it (marksL w.params c.ms ++ X) i ti c.vs c.ds c.nd c.no c.ns hv hD c.ws c.sv _ hsv B S t n GT kt c.o _ ho (by rw [kvs_len]; omega) ht ?_ hi4 ?_ F N hdk h1 h2 hI (offB_marks hA ok z1 oX1) (offG_marks hA ok z1 oX2) (offR_marks hA ok z1 oX3) (offD_marks ok z2 oX4) (app_ne (marks_ne ok (Nat.le_of_lt (Nat.lt_trans h2 hI))) oX5) (app_ne (marks_ne ok (Nat.le_of_lt hI)) oX6) ?_
  · rw [ew, List.length_map]; exact li
  · have e := hsv.length
    rw [List.length_map] at e
    omega
  intro m d r b vs' ds' nd' o' ts h' tk m' k1 k2 k3 k4 k5 k6 k7 k8 k9 k10 k11 k12
  subst k7
  have kd : ∀ p ∈ marksL w.params c.ms, p.1 < d := fun p hp => k4 p (List.mem_append_left _ hp)
  have okk : MsOk I (c.ms ++ [(m, d, r)]) := MsOk.app (P := w.params) ok k5 kd k6
  refine grow_end ⟨vs', ds', nd', c.ms ++ [(m, d, r)], c.ws ++ [.ref m], c.no + 1, c.sv ++ [.int (if r.adv = true then 1 else 0) ts], c.ns + 1, o'⟩ k11 k12 ?_ ?_ k1 ?_
  · dsimp only [numLed]
    rw [marks_app, ← List.push_toArray, ← List.push_toArray]
    nest_cls
  · dsimp only [numLed]
    have e1 : @LT.lt Nat _ dk I := by omega
    have e2 : @LT.lt Nat _ A.ls I := by omega
    refine app_ne (one_ne (Nat.ne_of_lt e1)) (app_ne (one_ne (Nat.ne_of_lt (Nat.lt_trans h2 hI))) (app_ne (one_ne (Nat.ne_of_lt hI)) (app_ne (app_ne (app_ne (lhi_buf hA e2) (lhi_gap hA e2)) (lhi_rows hA e2)) (app_ne (marks_ne okk (Nat.le_refl _)) fun p hp => Nat.ne_of_lt (Nat.lt_trans (oX7 p hp) (Nat.lt_trans q0 e2))))))
  · refine ⟨hI, k2, k3, ?_, ?_, ?_, ?_, okk, ?_⟩
    · dsimp only; rw [List.length_append, li]; rfl
    · dsimp only; rw [ew, List.map_append]; rfl
    · dsimp only; rw [List.map_append]; exact hsv.append (.cons _ _ .nil)
    · dsimp only; rw [← kvs_store li]; exact k10
    · intro x hx
      rcases List.mem_append.mp hx with hx | hx
      · exact pos x hx
      · rcases List.mem_singleton.mp hx with rfl; exact ⟨k8, k9⟩

theorem law_marks (w : World) (A : BufA) (hA : Low A) {h₀ : Heap} {mean : ExcName → Option Value} {mg mb : Str → Option Value} {s : Shared} {E : Value → Shared → Prop} {Q : Flow → Shared → Prop} (L a : Addr) (cd : Value) (m : Str → Option Value)
    (kX : (hd.heap_1 w.params).In h₀) (kT : Top H.qv (looseW H.qv LS) mean mg mb h₀) (kB : Below callerA h₀ [] h₀)
    (dk ow so : Addr) (X : List (Addr × Obj)) (vs : List Value) (ds : List Int) (nd no ns : Nat) (hv : IntsAre vs ds) (hD : DeckOk ds) (B : BufS) (S : GapS) (t : List Int) (n : Nat) (GT : GapT S t n) (kt : Tok) (o : Obj) (ho : o.IsDictOf (PySem.intKind PG w) []) (ht : t.length ≤ 40)
    (F : Fr h₀ L s.heap m) (hm : ∀ p ∈ [(Str.ofString "deck", Value.ref dk), (Str.ofString "buffer", .ref A.bx), (Str.ofString "own", .ref ow), (Str.ofString "sorts", .ref so)], m p.1 = some p.2)
    (N : News h₀ L s.heap (numLed w.params A B S kt dk ow so X ⟨vs, ds, nd, [], [], no, [], ns, o⟩))
    (hdk : @LT.lt Nat _ dk A.dx) (h1 : @LT.lt Nat _ A.ls ow) (h2 : @LT.lt Nat _ ow so) (oX1 : OffB w.params A X) (oX2 : OffG w.params A.G X) (oX3 : OffR w.params A.M X) (oX4 : OffD dk X) (oX5 : ∀ p ∈ X, p.1 ≠ ow) (oX6 : ∀ p ∈ X, p.1 ≠ so)
    (oX7 : ∀ p ∈ X, p.1 < A.dx) (hE : PassesOwn (model PG w) (callerA.deeper (lawEnv L a cd)) (lawEnv L a cd) E)
    (hQ : ∀ (I : Addr) (c : NumS) (u : Str → Option Value) h tk, NumOk w A t.length so I 4 c → Fr h₀ L h (kstB u [(Str.ofString "deck", .ref dk), (Str.ofString "buffer", .ref A.bx), (Str.ofString "own", .ref ow), (Str.ofString "sorts", .ref so)]) → News h₀ L h (numLed w.params A B S kt dk ow so X c) →
      wpAny (model PG w) (callerA.deeper (lawEnv L a cd)) (execs (List.drop 5 lawBody) (lawEnv L a cd)) Q E { s with heap := h, toks := tk }) :
    wpAny (model PG w) (callerA.deeper (lawEnv L a cd)) (execs (List.drop 4 lawBody) (lawEnv L a cd)) Q E s := by
  have hfill : hd.heap_1 = hd.heap_1 ∧ PySem.Challenge.rw_pq0288_01 = PySem.Challenge.rw_pq0288_01 := by k_fill; exact ⟨rfl, rfl⟩
  clear hfill
  have q0 : @LT.lt Nat _ A.dx A.ls := low_dx hA
  have h0 : ∀ I : Addr, (∀ p ∈ numLed w.params A B S kt dk ow so X ⟨vs, ds, nd, [], [], no, [], ns, o⟩, p.1 < I) → NumOk w A t.length so I 0 ⟨vs, ds, nd, [], [], no, [], ns, o⟩ := fun I hI =>
    ⟨hI (so, _) (List.mem_append_right _ (List.mem_append_right _ List.mem_cons_self)), hv, hD, rfl, rfl, .nil, ho, trivial, fun _ h => nomatch h⟩
  k_with "~L34:pyIter ref" => (k_dflt (rename IsRange _ _ _ _ _ _ _ _ => rg; rename Fr _ _ _ _ => fE; rename News _ _ _ _ => nE; k_dflt refine' range_grow (σ := NumS) (numLed w.params A B S kt dk ow so X) (fun _ => [(Str.ofString "deck", .ref dk), (Str.ofString "buffer", .ref A.bx), (Str.ofString "own", .ref ow), (Str.ofString "sorts", .ref so)]) (NumOk w A t.length so) ⟨vs, ds, nd, [], [], no, [], ns, o⟩ rfl rg ?g1 (n := 4) ?g2 fE nE (Sub.refl _) hm h0 ?turn ?done; (case g1 => exact rfl); (case g2 => exact rfl); (case done => exact fun I c u h tk hP F9 N9 => hQ I c u h tk hP F9 N9); (case turn => exact fun I it c i t1 u h tk hi hP F9 N9 => law_turn w A hA L a cd u kX kT kB dk ow so I it X i t1 c B S t n GT kt ht hi hP F9 N9 hdk h1 h2 oX1 oX2 oX3 oX4 oX5 oX6 oX7)))
  unfold lawEnv
  conv in List.drop 4 lawBody => whnf
  conv in (occs := *) lawScope => all_goals whnf
  k_steps

end Mine

end Lay34

section Lay35
open PySem PySem.Spec PySem.Calls PySem.W PyProof.Rows

theorem Mine.lay35 : True := by
  w_top off
  k_with "~L35:ktr_room" => k_extra "~w0"
  k_with "~L35:is_list" => k_extra "~w5"
  k_with "~L35:k_enter" => k_extra "~w52"
  k_with "~L35:top_caught0" => k_extra "~w53"
  k_with "~L35:k_ne" => k_extra "~w54"
  k_with "~L35:l_idx" => k_extra "~w55"
  k_with "~L35:ktr_room" => k_extra "~w2"
  k_with "~L35:ktr_units" => k_extra "~w2"
  k_with "~L35:ktr_room" => k_extra "~w3"
  k_with "~L35:ktr_units" => k_extra "~w4"
  k_with "~L35:k_mem" => k_extra "~w57"
  k_with "~L35:k_inst" => k_extra "~w59"
  k_with "~L35:tlg_ne" => k_extra "~w62"
  k_with "~L35:k_all" => k_extra "~w63"
  k_with "~L35:lcg_off" => k_extra "~w64"
  k_with "~L35:k_lt" => k_extra "~w65"
  k_with "~L35:k_upd" => k_extra "~w66"
  k_with "~L35:k_updF" => k_extra "~w67"
  k_with "~L35:setAttr ref" => k_extra "~w68"
  k_with "~L35:setAttr ref" => k_extra "~w69"
  k_with "~L35:setAttr ref" => k_extra "~w70"
  k_with "~L35:tlg_ne" => k_extra "~w118"
  k_with "~L35:k_lt" => k_extra "~w119"
  k_with "~L35:tlg_ne" => k_extra "~w71"
  k_with "~L35:subscriptTail Name Slice ref ref" => k_extra "~w141"
  k_with "~L35:subscriptTail Name Name ref int" => k_extra "~w127"
  trivial

namespace Mine

theorem law_p8 (w : World) {h₀ : Heap} {mean : ExcName → Option Value} {mg mb : Str → Option Value} {s : Shared} {E : Value → Shared → Prop} {Q : Flow → Shared → Prop} (L a : Addr) (cd : Value) (m : Str → Option Value)
    (kX : (hd.heap_1 w.params).In h₀) (kT : Top H.qv (looseW H.qv LS) mean mg mb h₀) (kB : Below callerA h₀ [] h₀)
    (v0 v1 v2 v3 : Value) (e l tx nx : Addr) (X : List (Addr × Obj)) (evs lvs tvs uvs : List Value) (es ls t u : List Int) (ne nl nt nu : Nat) (he : IntsAre evs es) (hl : IntsAre lvs ls) (ht : IntsAre tvs t) (hu : IntsAre uvs u) (l0 : es.length = 5) (l1 : ls.length = 5) (l2 : t.length ≤ 50) (l3 : u.length ≤ 50) (lo hi : Int) (tl th : Tok) (oc : Obj) (hoc : oc.data = .cell (some (.ref nx)))
    (HE : ∀ i : Nat, i < 5 → 1 ≤ es.getD i 0) (HL : ∀ i : Nat, i < 5 → 1 ≤ ls.getD i 0)
    (H1 : ∀ i j : Nat, i < 4 → j < 4 → es.getD i 0 ≤ es.getD j 0 → es.getD j 0 < lo → cut u (ls.getD i 0) (ls.getD j 0) = cut t (es.getD i 0) (es.getD j 0))
    (H2 : ∀ i j : Nat, i < 4 → j < 4 → hi < es.getD i 0 → es.getD i 0 ≤ es.getD j 0 → cut u (ls.getD i 0) (ls.getD j 0) = cut t (es.getD i 0) (es.getD j 0))
    (F : Fr h₀ L s.heap (kstB m [(Str.ofString "elder", Value.ref e), (Str.ofString "later", Value.ref l), (Str.ofString "text", Value.ref tx), (Str.ofString "low", Value.int lo tl), (Str.ofString "high", Value.int hi th), (Str.ofString "deck", v0), (Str.ofString "buffer", v1), (Str.ofString "own", v2), (Str.ofString "sorts", v3)]))
    (N : News h₀ L s.heap ([(e, listOf evs.toArray ne)] ++ ([(l, listOf lvs.toArray nl)] ++ ([(tx, listOf tvs.toArray nt)] ++ ([(nx, listOf uvs.toArray nu)] ++ ([(L + 1, oc)] ++ X))))))
    (hE : PassesOwn (model PG w) (callerA.deeper (lawEnv L a cd)) (lawEnv L a cd) E)
    (hQ : ∀ u h tk, Fr h₀ L h (kstB u [(Str.ofString "elder", Value.ref e), (Str.ofString "later", Value.ref l), (Str.ofString "text", Value.ref tx), (Str.ofString "low", Value.int lo tl), (Str.ofString "high", Value.int hi th), (Str.ofString "deck", v0), (Str.ofString "buffer", v1), (Str.ofString "own", v2), (Str.ofString "sorts", v3)]) → News h₀ L h ([(e, listOf evs.toArray ne)] ++ ([(l, listOf lvs.toArray nl)] ++ ([(tx, listOf tvs.toArray nt)] ++ ([(nx, listOf uvs.toArray nu)] ++ ([(L + 1, oc)] ++ X))))) → Q .next { s with heap := h, toks := tk }) :
    wpAny (model PG w) (callerA.deeper (lawEnv L a cd)) (exec (lapSt 8) (lawEnv L a cd)) Q E s := by
  have hfill : hd.heap_1 = hd.heap_1 ∧ PySem.Challenge.rw_pq0288_01 = PySem.Challenge.rw_pq0288_01 := by k_fill; exact ⟨rfl, rfl⟩
  clear hfill
  have z0 := he.length
  have z1 := hl.length
  have z2 := ht.length
  have z3 := hu.length
  k_with "~L35:pyIter ref" => (k_dflt (first | (rename Fr _ _ _ _ => fE; rename News _ _ _ _ => nE; rename IsRange _ _ _ _ _ _ _ _ => rg; k_dflt refine' range_K (σ := Unit) (fun _ => [(e, listOf evs.toArray ne)] ++ ([(l, listOf lvs.toArray nl)] ++ ([(tx, listOf tvs.toArray nt)] ++ ([(nx, listOf uvs.toArray nu)] ++ ([(L + 1, oc)] ++ X)))) ++ own8) (fun _ => [(Str.ofString "elder", Value.ref e), (Str.ofString "later", Value.ref l), (Str.ofString "text", Value.ref tx), (Str.ofString "low", Value.int lo tl), (Str.ofString "high", Value.int hi th), (Str.ofString "deck", v0), (Str.ofString "buffer", v1), (Str.ofString "own", v2), (Str.ofString "sorts", v3), (Str.ofString "at", Value.int _ _)]) (fun _ _ => True) () (fun _ _ => rfl) rfl rg ?h1 (n := 4) ?h2 fE nE ?h3 ?h4 trivial ?_ ?_; (case h1 => exact rfl); (case h2 => exact rfl); (case h3 => (try dsimp only); nest_cls); (case h4 => kst_all); clear fE nE; (rotate_left; (rintro c1 u9 h9 tk9 hP F9 N9; (try dsimp only at N9)); rotate_left; (rintro c1 i9 t9 u9 h9 tk9 own9 hi9 ho9 hP F9 N9; (try dsimp only at N9); (have fi9 := HE (0 + (i9 : Int)).toNat (by omega)); (have gi9 := HL (0 + (i9 : Int)).toNat (by omega)); (try dsimp only); (try k_fold)))) | (rename Fr _ _ _ _ => fE; rename News _ _ _ _ => nE; rename IsRange _ _ _ _ _ _ _ _ => rg; k_dflt refine' range_K (σ := Unit) (fun _ => [(e, listOf evs.toArray ne)] ++ ([(l, listOf lvs.toArray nl)] ++ ([(tx, listOf tvs.toArray nt)] ++ ([(nx, listOf uvs.toArray nu)] ++ ([(L + 1, oc)] ++ X))))) (fun _ => [(Str.ofString "elder", Value.ref e), (Str.ofString "later", Value.ref l), (Str.ofString "text", Value.ref tx), (Str.ofString "low", Value.int lo tl), (Str.ofString "high", Value.int hi th), (Str.ofString "deck", v0), (Str.ofString "buffer", v1), (Str.ofString "own", v2), (Str.ofString "sorts", v3)]) (fun _ _ => True) () (fun _ _ => rfl) rfl rg ?h1 (n := 4) ?h2 fE nE ?h3 ?h4 trivial ?_ ?_; (case h1 => exact rfl); (case h2 => exact rfl); (case h3 => (try dsimp only); nest_cls); (case h4 => kst_all); clear fE nE; (rotate_left; (rintro c1 u9 h9 tk9 hP F9 N9; (try dsimp only at N9)); rotate_left; (rintro c1 i8 t9 u9 h9 tk9 own8 hi8 ho9 hP F9 N9; (try dsimp only at N9); (have fi8 := HE (0 + (i8 : Int)).toNat (by omega)); (have gi8 := HL (0 + (i8 : Int)).toNat (by omega)); (try dsimp only); (try k_fold))))))
  unfold lawEnv
  conv in lapSt 8 => whnf
  conv in (occs := *) lawScope => all_goals whnf
  k_steps
  all_goals (try dsimp only [RgPost])
  all_goals rename Fr _ _ _ _ => fE
  all_goals rename News _ _ _ _ => nE
  all_goals first
    | exact (p8_no1 H1 (by with_reducible assumption) (by with_reducible assumption) (by assumption) (by with_reducible assumption) (by with_reducible assumption)).elim
    | exact (p8_no2 H2 (by with_reducible assumption) (by with_reducible assumption) (by assumption) (by with_reducible assumption) (by with_reducible assumption)).elim
    | exact rg_end () fE nE (by (try dsimp only); nest_cls) (List.forall_mem_cons.mpr ⟨rfl, List.forall_mem_cons.mpr ⟨rfl, List.forall_mem_cons.mpr ⟨rfl, List.forall_mem_cons.mpr ⟨rfl, List.forall_mem_cons.mpr ⟨rfl, List.forall_mem_cons.mpr ⟨rfl, List.forall_mem_cons.mpr ⟨rfl, List.forall_mem_cons.mpr ⟨rfl, List.forall_mem_cons.mpr ⟨rfl, List.forall_mem_cons.mpr ⟨rfl, List.forall_mem_nil _⟩⟩⟩⟩⟩⟩⟩⟩⟩⟩) trivial
    | exact rg_end () fE nE (by (try dsimp only); nest_cls) (List.forall_mem_cons.mpr ⟨rfl, List.forall_mem_cons.mpr ⟨rfl, List.forall_mem_cons.mpr ⟨rfl, List.forall_mem_cons.mpr ⟨rfl, List.forall_mem_cons.mpr ⟨rfl, List.forall_mem_cons.mpr ⟨rfl, List.forall_mem_cons.mpr ⟨rfl, List.forall_mem_cons.mpr ⟨rfl, List.forall_mem_cons.mpr ⟨rfl, List.forall_mem_nil _⟩⟩⟩⟩⟩⟩⟩⟩⟩) trivial
    | exact hQ _ _ _ fE (News.sub nE (by (try dsimp only); nest_cls))

end Mine

end Lay35

section Lay36
open PySem PySem.Spec PySem.Calls PySem.W PyProof.Rows

theorem Mine.lay36 : True := by
  w_top off
  k_with "~L36:ktr_room" => k_extra "~w0"
  k_with "~L36:is_list" => k_extra "~w5"
  k_with "~L36:k_enter" => k_extra "~w52"
  k_with "~L36:top_caught0" => k_extra "~w53"
  k_with "~L36:k_ne" => k_extra "~w54"
  k_with "~L36:l_idx" => k_extra "~w55"
  k_with "~L36:ktr_room" => k_extra "~w2"
  k_with "~L36:ktr_units" => k_extra "~w2"
  k_with "~L36:ktr_room" => k_extra "~w3"
  k_with "~L36:ktr_units" => k_extra "~w4"
  k_with "~L36:k_mem" => k_extra "~w57"
  k_with "~L36:k_inst" => k_extra "~w59"
  k_with "~L36:tlg_ne" => k_extra "~w62"
  k_with "~L36:k_all" => k_extra "~w63"
  k_with "~L36:lcg_off" => k_extra "~w64"
  k_with "~L36:k_lt" => k_extra "~w65"
  k_with "~L36:k_upd" => k_extra "~w66"
  k_with "~L36:k_updF" => k_extra "~w67"
  k_with "~L36:setAttr ref" => k_extra "~w68"
  k_with "~L36:setAttr ref" => k_extra "~w69"
  k_with "~L36:setAttr ref" => k_extra "~w70"
  k_with "~L36:tlg_ne" => k_extra "~w118"
  k_with "~L36:k_lt" => k_extra "~w119"
  k_with "~L36:tlg_ne" => k_extra "~w71"
  k_with "~L36:subscriptTail Name Slice ref ref" => k_extra "~w141"
  trivial

namespace Mine

theorem law_p6 (w : World) {h₀ : Heap} {mean : ExcName → Option Value} {mg mb : Str → Option Value} {s : Shared} {E : Value → Shared → Prop} {Q : Flow → Shared → Prop} (L a : Addr) (cd : Value) (m : Str → Option Value)
    (kX : (hd.heap_1 w.params).In h₀) (kT : Top H.qv (looseW H.qv LS) mean mg mb h₀) (kB : Below callerA h₀ [] h₀)
    (tx : Addr) (X : List (Addr × Obj)) (tvs : List Value) (t : List Int) (nt : Nat) (ht : IntsAre tvs t) (l2 : t.length ≤ 50) (hi : Int) (th : Tok)
    (F : Fr h₀ L s.heap (kstB m [(Str.ofString "high", Value.int hi th), (Str.ofString "text", Value.ref tx)]))
    (N : News h₀ L s.heap ([(tx, listOf tvs.toArray nt)] ++ X))
    (hQ : ∀ tr h tk, Fr h₀ L h (fun y => if y = Str.ofString "rest" then some (.int ((t.length : Int) + 1 - hi) tr) else kstB m [(Str.ofString "high", Value.int hi th), (Str.ofString "text", Value.ref tx)] y) → News h₀ L h ([(tx, listOf tvs.toArray nt)] ++ X) → Q .next { s with heap := h, toks := tk }) :
    wpAny (model PG w) (callerA.deeper (lawEnv L a cd)) (exec (lapSt 6) (lawEnv L a cd)) Q E s := by
  have hfill : hd.heap_1 = hd.heap_1 ∧ PySem.Challenge.rw_pq0288_01 = PySem.Challenge.rw_pq0288_01 := by k_fill; exact ⟨rfl, rfl⟩
  clear hfill
  unfold lawEnv
  conv in lapSt 6 => whnf
  conv in (occs := *) lawScope => all_goals whnf
  k_steps
  rename Fr _ _ _ _ => fE
  rename News _ _ _ _ => nE
  exact hQ _ _ _ fE (News.sub nE (by (try dsimp only); nest_cls))

theorem law_p7 (w : World) {h₀ : Heap} {mean : ExcName → Option Value} {mg mb : Str → Option Value} {s : Shared} {E : Value → Shared → Prop} {Q : Flow → Shared → Prop} (L a : Addr) (cd : Value) (m : Str → Option Value)
    (kX : (hd.heap_1 w.params).In h₀) (kT : Top H.qv (looseW H.qv LS) mean mg mb h₀) (kB : Below callerA h₀ [] h₀)
    (tx nx : Addr) (X : List (Addr × Obj)) (tvs uvs : List Value) (t u : List Int) (nt nu : Nat) (ht : IntsAre tvs t) (hu : IntsAre uvs u) (l2 : t.length ≤ 50) (l3 : u.length ≤ 50) (lo rest : Int) (tl tr : Tok) (oc : Obj) (hoc : oc.data = .cell (some (.ref nx)))
    (b1 : 1 ≤ lo) (b2 : lo ≤ 60) (b3 : 0 ≤ rest) (b4 : rest ≤ t.length) (b5 : rest ≤ u.length)
    (H1 : u.take (lo - 1).toNat = t.take (lo - 1).toNat) (H2 : u.drop ((u.length : Int) - rest).toNat = t.drop ((t.length : Int) - rest).toNat)
    (F : Fr h₀ L s.heap (kstB m [(Str.ofString "low", Value.int lo tl), (Str.ofString "text", Value.ref tx), (Str.ofString "rest", Value.int rest tr)]))
    (N : News h₀ L s.heap ([(tx, listOf tvs.toArray nt)] ++ ([(nx, listOf uvs.toArray nu)] ++ ([(L + 1, oc)] ++ X))))
    (hQ : ∀ h tk, Fr h₀ L h (kstB m [(Str.ofString "low", Value.int lo tl), (Str.ofString "text", Value.ref tx), (Str.ofString "rest", Value.int rest tr)]) → News h₀ L h ([(tx, listOf tvs.toArray nt)] ++ ([(nx, listOf uvs.toArray nu)] ++ ([(L + 1, oc)] ++ X))) → Q .next { s with heap := h, toks := tk }) :
    wpAny (model PG w) (callerA.deeper (lawEnv L a cd)) (exec (lapSt 7) (lawEnv L a cd)) Q E s := by
  have hfill : hd.heap_1 = hd.heap_1 ∧ PySem.Challenge.rw_pq0288_01 = PySem.Challenge.rw_pq0288_01 := by k_fill; exact ⟨rfl, rfl⟩
  clear hfill
  have z1 := ht.length
  have z2 := hu.length
  unfold lawEnv
  conv in lapSt 7 => whnf
  conv in (occs := *) lawScope => all_goals whnf
  k_steps
  all_goals rename Fr _ _ _ _ => fE
  all_goals rename News _ _ _ _ => nE
  all_goals exact hQ _ _ fE (News.sub nE (by (try dsimp only); nest_cls))

end Mine

end Lay36

section Lay37
open PySem PySem.Spec PySem.Calls PySem.W PyProof.Rows

theorem Mine.lay37 : True := by
  w_top off
  k_with "~L37:ktr_room" => k_extra "~w0"
  k_with "~L37:is_list" => k_extra "~w5"
  k_with "~L37:k_enter" => k_extra "~w52"
  k_with "~L37:top_caught0" => k_extra "~w53"
  k_with "~L37:k_ne" => k_extra "~w54"
  k_with "~L37:l_idx" => k_extra "~w55"
  k_with "~L37:ktr_room" => k_extra "~w2"
  k_with "~L37:ktr_units" => k_extra "~w2"
  k_with "~L37:ktr_room" => k_extra "~w3"
  k_with "~L37:ktr_units" => k_extra "~w4"
  k_with "~L37:k_mem" => k_extra "~w57"
  k_with "~L37:k_inst" => k_extra "~w59"
  k_with "~L37:tlg_ne" => k_extra "~w62"
  k_with "~L37:k_all" => k_extra "~w63"
  k_with "~L37:lcg_off" => k_extra "~w64"
  k_with "~L37:k_lt" => k_extra "~w65"
  k_with "~L37:k_upd" => k_extra "~w66"
  k_with "~L37:k_updF" => k_extra "~w67"
  k_with "~L37:setAttr ref" => k_extra "~w68"
  k_with "~L37:setAttr ref" => k_extra "~w69"
  k_with "~L37:setAttr ref" => k_extra "~w70"
  k_with "~L37:tlg_ne" => k_extra "~w118"
  k_with "~L37:k_lt" => k_extra "~w119"
  k_with "~L37:tlg_ne" => k_extra "~w71"
  k_with "~L37:CompEnd" => k_extra "~w142"
  k_with "~L37:eval ListComp" => k_extra "~w143"
  k_with "~L37:CompSrcT" => k_extra "~w144"
  trivial

namespace Mine

theorem law_p5 (w : World) (A : BufA) (hA : A.ok) {h₀ : Heap} {mean : ExcName → Option Value} {mg mb : Str → Option Value} {s : Shared} {E : Value → Shared → Prop} {Q : Flow → Shared → Prop} (L a : Addr) (cd : Value) (m : Str → Option Value)
    (kX : (hd.heap_1 w.params).In h₀) (kT : Top H.qv (looseW H.qv LS) mean mg mb h₀) (kB : Below callerA h₀ [] h₀)
    (l tx : Addr) (X : List (Addr × Obj)) (lvs tvs : List Value) (ls t : List Int) (nl nt : Nat) (hl : IntsAre lvs ls) (ht : IntsAre tvs t) (l1 : ls.length = 5) (l2 : t.length ≤ 50) (oc : Obj) (hoc : oc.data = .cell (some (.ref tx))) (B : BufS)
    (HP : ∀ k ∈ ls, 1 ≤ k ∧ k ≤ (t.length : Int) + 1) (h1 : B.begv ≤ B.point) (h2 : B.point ≤ B.zv)
    (F : Fr h₀ L s.heap (kstB m [(Str.ofString "later", Value.ref l), (Str.ofString "buffer", Value.ref A.bx)]))
    (N : News h₀ L s.heap ([(l, listOf lvs.toArray nl)] ++ ([(tx, listOf tvs.toArray nt)] ++ ([(L + 1, oc)] ++ (bufL w.params A B ++ X)))))
    (hQ : ∀ h tk, Fr h₀ L h (kstB m [(Str.ofString "later", Value.ref l), (Str.ofString "buffer", Value.ref A.bx)]) → News h₀ L h ([(l, listOf lvs.toArray nl)] ++ ([(tx, listOf tvs.toArray nt)] ++ ([(L + 1, oc)] ++ (bufL w.params A B ++ X)))) → Q .next { s with heap := h, toks := tk }) :
    wpAny (model PG w) (callerA.deeper (lawEnv L a cd)) (exec (lapSt 5) (lawEnv L a cd)) Q E s := by
  have hfill : hd.heap_1 = hd.heap_1 ∧ PySem.Challenge.rw_pq0288_01 = PySem.Challenge.rw_pq0288_01 := by k_fill; exact ⟨rfl, rfl⟩
  clear hfill
  have l3 := hl.length
  unfold lawEnv
  conv in lapSt 5 => whnf
  conv in (occs := *) lawScope => all_goals whnf
  k_steps
  all_goals rename Fr _ _ _ _ => fE
  all_goals rename News _ _ _ _ => nE
  all_goals exact hQ _ _ fE (News.sub nE (by (try dsimp only); nest_cls))

end Mine

end Lay37

section Lay38
open PySem PySem.Spec PySem.Calls PySem.W PyProof.Rows

theorem Mine.lay38 : True := by
  w_top off
  k_with "~L38:ktr_room" => k_extra "~w0"
  k_with "~L38:is_list" => k_extra "~w5"
  k_with "~L38:k_enter" => k_extra "~w52"
  k_with "~L38:top_caught0" => k_extra "~w53"
  k_with "~L38:k_ne" => k_extra "~w54"
  k_with "~L38:l_idx" => k_extra "~w55"
  k_with "~L38:ktr_room" => k_extra "~w2"
  k_with "~L38:ktr_units" => k_extra "~w2"
  k_with "~L38:ktr_room" => k_extra "~w3"
  k_with "~L38:ktr_units" => k_extra "~w4"
  k_with "~L38:k_mem" => k_extra "~w57"
  k_with "~L38:k_inst" => k_extra "~w59"
  k_with "~L38:tlg_ne" => k_extra "~w62"
  k_with "~L38:k_all" => k_extra "~w63"
  k_with "~L38:lcg_off" => k_extra "~w64"
  k_with "~L38:k_lt" => k_extra "~w65"
  k_with "~L38:k_upd" => k_extra "~w66"
  k_with "~L38:k_updF" => k_extra "~w67"
  k_with "~L38:setAttr ref" => k_extra "~w68"
  k_with "~L38:setAttr ref" => k_extra "~w69"
  k_with "~L38:setAttr ref" => k_extra "~w70"
  k_with "~L38:tlg_ne" => k_extra "~w118"
  k_with "~L38:k_lt" => k_extra "~w119"
  k_with "~L38:tlg_ne" => k_extra "~w71"
  k_with "~L38:call ref" => k_extra "~w145"
  trivial

namespace Mine

theorem law_p4 (w : World) {h₀ : Heap} {mean : ExcName → Option Value} {mg mb : Str → Option Value} {s : Shared} {E : Value → Shared → Prop} {Q : Flow → Shared → Prop} (L a : Addr) (cd : Value) (m : Str → Option Value)
    (kX : (hd.heap_1 w.params).In h₀) (kT : Top H.qv (looseW H.qv LS) mean mg mb h₀) (kB : Below callerA h₀ [] h₀)
    (e l so : Addr) (X : List (Addr × Obj)) (evs lvs svs : List Value) (es ls ss : List Int) (ne nl ns : Nat) (he : IntsAre evs es) (hl : IntsAre lvs ls) (hs : IntsAre svs ss) (l1 : es.length = 5) (l2 : ls.length = 5) (l3 : ss.length = 4) (led : Bool)
    (H4 : ∀ i j : Nat, i < (es.take 4).length → j < (es.take 4).length → ((es.take 4).getD i 0 < (es.take 4).getD j 0 ∨ ((es.take 4).getD i 0 = (es.take 4).getD j 0 ∧ ss.getD i 0 ≤ ss.getD j 0)) → (ls.take 4).getD i 0 ≤ (ls.take 4).getD j 0) (H5 : led = false → ∀ i j : Nat, i < es.length → j < es.length → (es.getD i 0 < es.getD j 0 ∨ (es.getD i 0 = es.getD j 0 ∧ (ss ++ [-1]).getD i 0 ≤ (ss ++ [-1]).getD j 0)) → ls.getD i 0 ≤ ls.getD j 0)
    (F : Fr h₀ L s.heap (kstB m [(Str.ofString "elder", Value.ref e), (Str.ofString "later", Value.ref l), (Str.ofString "sorts", Value.ref so), (Str.ofString "is_led", Value.bool led)]))
    (N : News h₀ L s.heap ([(e, listOf evs.toArray ne)] ++ ([(l, listOf lvs.toArray nl)] ++ ([(so, listOf svs.toArray ns)] ++ X))))
    (o1 : @LT.lt Nat _ so e) (o2 : @LT.lt Nat _ e l) (oX1 : OffD e X) (oX2 : OffD l X) (oX3 : OffD so X)
    (hQ : ∀ h tk, Fr h₀ L h (kstB m [(Str.ofString "elder", Value.ref e), (Str.ofString "later", Value.ref l), (Str.ofString "sorts", Value.ref so), (Str.ofString "is_led", Value.bool led)]) → News h₀ L h ([(e, listOf evs.toArray ne)] ++ ([(l, listOf lvs.toArray nl)] ++ ([(so, listOf svs.toArray ns)] ++ X))) → Q .next { s with heap := h, toks := tk }) :
    wpAny (model PG w) (callerA.deeper (lawEnv L a cd)) (exec (lapSt 4) (lawEnv L a cd)) Q E s := by
  have hfill : hd.heap_1 = hd.heap_1 ∧ PySem.Challenge.rw_pq0288_01 = PySem.Challenge.rw_pq0288_01 := by k_fill; exact ⟨rfl, rfl⟩
  clear hfill
  k_with "~L38:kept" => exact H5 (by with_reducible assumption)
  unfold lawEnv
  conv in lapSt 4 => whnf
  conv in (occs := *) lawScope => all_goals whnf
  k_steps
  all_goals rename Fr _ _ _ _ => fE
  all_goals rename News _ _ _ _ => nE
  all_goals exact hQ _ _ fE (News.sub nE (by (try dsimp only); nest_cls))

end Mine

end Lay38

section Lay39
open PySem PySem.Spec PySem.Calls PySem.W PyProof.Rows

theorem Mine.lay39 : True := by
  w_top off
  k_with "~L39:ktr_room" => k_extra "~w0"
  k_with "~L39:is_list" => k_extra "~w5"
  k_with "~L39:k_enter" => k_extra "~w52"
  k_with "~L39:top_caught0" => k_extra "~w53"
  k_with "~L39:k_ne" => k_extra "~w54"
  k_with "~L39:l_idx" => k_extra "~w55"
  k_with "~L39:ktr_room" => k_extra "~w2"
  k_with "~L39:ktr_units" => k_extra "~w2"
  k_with "~L39:ktr_room" => k_extra "~w3"
  k_with "~L39:ktr_units" => k_extra "~w4"
  k_with "~L39:k_mem" => k_extra "~w57"
  k_with "~L39:k_inst" => k_extra "~w59"
  k_with "~L39:tlg_ne" => k_extra "~w62"
  k_with "~L39:k_all" => k_extra "~w63"
  k_with "~L39:lcg_off" => k_extra "~w64"
  k_with "~L39:k_lt" => k_extra "~w65"
  k_with "~L39:k_upd" => k_extra "~w66"
  k_with "~L39:k_updF" => k_extra "~w67"
  k_with "~L39:setAttr ref" => k_extra "~w68"
  k_with "~L39:setAttr ref" => k_extra "~w69"
  k_with "~L39:setAttr ref" => k_extra "~w70"
  k_with "~L39:tlg_ne" => k_extra "~w118"
  k_with "~L39:k_lt" => k_extra "~w119"
  k_with "~L39:tlg_ne" => k_extra "~w71"
  k_with "~L39:call ref" => k_extra "~w146"
  trivial

namespace Mine

theorem law_p2 (w : World) (A : BufA) (hA : A.ok) {h₀ : Heap} {mean : ExcName → Option Value} {mg mb : Str → Option Value} {s : Shared} {E : Value → Shared → Prop} {Q : Flow → Shared → Prop} (L a : Addr) (cd : Value) (m : Str → Option Value)
    (kX : (hd.heap_1 w.params).In h₀) (kT : Top H.qv (looseW H.qv LS) mean mg mb h₀) (kB : Below callerA h₀ [] h₀)
    (dk : Addr) (X : List (Addr × Obj)) (vs : List Value) (ds : List Int) (nd : Nat) (hv : IntsAre vs ds) (hD : DeckOk ds) (B : BufS) (S : GapS) (t : List Int) (n : Nat) (GT : GapT S t n) (ht : t.length ≤ 40) (hn : n ≤ 900) (K : MkS) (hr : RowsIs w A.M K.o) (i : Nat) (ti : Tok) (hi : i < 9)
    (h0 : 1 ≤ B.begv) (h1 : B.begv ≤ B.point) (h2 : B.point ≤ B.zv) (h3 : B.zv ≤ t.length + 1)
    (F : Fr h₀ L s.heap (kstB m [(Str.ofString "deck", Value.ref dk), (Str.ofString "buffer", Value.ref A.bx), (Str.ofString "lap", Value.int (0 + (i : Int)) ti)]))
    (N : News h₀ L s.heap ([(dk, listOf vs.toArray nd)] ++ (bufL w.params A B ++ gapL w.params A.G S ++ mkL w.params A.M K ++ X)))
    (hdk : @LT.lt Nat _ dk A.dx) (oX1 : OffB w.params A X) (oX2 : OffG w.params A.G X) (oX4 : OffD dk X) (oX3 : OffM w.params A.M X)
    (hQ : ∀ (r : EdR) h tk, EdOk B K t n r →
      Fr h₀ L h (fun y => if y = Str.ofString "is_led" then some (.bool r.led) else if y = Str.ofString "high" then some (.int r.hi r.t2) else if y = Str.ofString "low" then some (.int r.lo r.t1) else kstB m [(Str.ofString "deck", Value.ref dk), (Str.ofString "buffer", Value.ref A.bx), (Str.ofString "lap", Value.int (0 + (i : Int)) ti)] y) → News h₀ L h ([(dk, listOf r.vs.toArray r.nd)] ++ (bufL w.params A r.B ++ gapL w.params A.G r.S ++ mkL w.params A.M r.K ++ X)) → Q .next { s with heap := h, toks := tk }) :
    wpAny (model PG w) (callerA.deeper (lawEnv L a cd)) (exec (lapSt 2) (lawEnv L a cd)) Q E s := by
  have hfill : hd.heap_1 = hd.heap_1 ∧ PySem.Challenge.rw_pq0288_01 = PySem.Challenge.rw_pq0288_01 := by k_fill; exact ⟨rfl, rfl⟩
  clear hfill
  have q0 : @LT.lt Nat _ dk A.M.m3 := Nat.lt_trans hdk (hA.lt 0 16 rfl rfl rfl)
  unfold lawEnv
  conv in lapSt 2 => whnf
  conv in (occs := *) lawScope => all_goals whnf
  k_steps
  rename Fr _ _ _ _ => fE
  rename News _ _ _ _ => nE
  rename EdOk _ _ _ _ _ => hE9
  exact hQ _ _ _ hE9 fE (News.sub nE (by (try dsimp only); nest_cls))

end Mine

end Lay39

section Lay40
open PySem PySem.Spec PySem.Calls PySem.W PyProof.Rows

theorem Mine.lay40 : True := by
  w_top off
  k_with "~L40:ktr_room" => k_extra "~w0"
  k_with "~L40:is_list" => k_extra "~w5"
  k_with "~L40:k_enter" => k_extra "~w52"
  k_with "~L40:top_caught0" => k_extra "~w53"
  k_with "~L40:k_ne" => k_extra "~w54"
  k_with "~L40:l_idx" => k_extra "~w55"
  k_with "~L40:ktr_room" => k_extra "~w2"
  k_with "~L40:ktr_units" => k_extra "~w2"
  k_with "~L40:ktr_room" => k_extra "~w3"
  k_with "~L40:ktr_units" => k_extra "~w4"
  k_with "~L40:k_mem" => k_extra "~w57"
  k_with "~L40:k_inst" => k_extra "~w59"
  k_with "~L40:tlg_ne" => k_extra "~w62"
  k_with "~L40:k_all" => k_extra "~w63"
  k_with "~L40:lcg_off" => k_extra "~w64"
  k_with "~L40:k_lt" => k_extra "~w65"
  k_with "~L40:k_upd" => k_extra "~w66"
  k_with "~L40:k_updF" => k_extra "~w67"
  k_with "~L40:setAttr ref" => k_extra "~w68"
  k_with "~L40:setAttr ref" => k_extra "~w69"
  k_with "~L40:setAttr ref" => k_extra "~w70"
  k_with "~L40:tlg_ne" => k_extra "~w118"
  k_with "~L40:k_lt" => k_extra "~w119"
  k_with "~L40:tlg_ne" => k_extra "~w71"
  k_with "~L40:k_inst" => k_extra "~w147"
  k_with "~L40:CompEnd" => k_extra "~w142"
  k_with "~L40:call ref" => k_extra "~w148"
  k_with "~L40:call ref" => k_extra "~w149"
  trivial

namespace Mine

theorem law_p3 (w : World) (A : BufA) (hA : A.ok) {h₀ : Heap} {mean : ExcName → Option Value} {mg mb : Str → Option Value} {s : Shared} {E : Value → Shared → Prop} {Q : Flow → Shared → Prop} (L a : Addr) (cd : Value) (m : Str → Option Value)
    (kX : (hd.heap_1 w.params).In h₀) (kT : Top H.qv (looseW H.qv LS) mean mg mb h₀) (kB : Below callerA h₀ [] h₀)
    (ow : Addr) (no : Nat) (oc : Obj) (cv : Option Value) (hoc : oc.data = .cell cv) (X : List (Addr × Obj)) (B : BufS) (S : GapS) (t : List Int) (n : Nat) (GT : GapT S t n) (ht : t.length ≤ 40) (K : MkS)
    (F : Fr h₀ L s.heap (kstB m [(Str.ofString "own", Value.ref ow), (Str.ofString "buffer", Value.ref A.bx)]))
    (N : News h₀ L s.heap ([(ow, ownL A no)] ++ (bufL w.params A B ++ gapL w.params A.G S ++ mkL w.params A.M K ++ ([(L + 1, oc)] ++ X))))
    (how : @LT.lt Nat _ A.ls ow) (hL : @LT.lt Nat _ (L + 1) A.dx) (oX1 : OffB w.params A X) (oX2 : OffG w.params A.G X) (oX3 : OffM w.params A.M X) (oX5 : ∀ p ∈ X, p.1 ≠ L + 1)
    (hQ : ∀ (e tx : Addr) (oc' : Obj) (evs tvs : List Value) (ne nt : Nat) h tk, IntsAre evs (places K ++ [B.point]) → IntsAre tvs t → (∀ p ∈ [(ow, ownL A no)] ++ (bufL w.params A B ++ gapL w.params A.G S ++ mkL w.params A.M K ++ ([(L + 1, oc)] ++ X)), p.1 < e) → (∀ p ∈ [(ow, ownL A no)] ++ (bufL w.params A B ++ gapL w.params A.G S ++ mkL w.params A.M K ++ ([(L + 1, oc)] ++ X)), p.1 < tx) → @LT.lt Nat _ e tx → oc'.data = .cell (some (.ref tx)) →
      Fr h₀ L h (fun y => if y = Str.ofString "later" then some (.ref e) else kstB m [(Str.ofString "own", Value.ref ow), (Str.ofString "buffer", Value.ref A.bx)] y) → News h₀ L h ([(e, listOf evs.toArray ne)] ++ ([(tx, listOf tvs.toArray nt)] ++ ([(ow, ownL A no)] ++ (bufL w.params A B ++ gapL w.params A.G S ++ mkL w.params A.M K ++ ([(L + 1, oc')] ++ X))))) → Q .next { s with heap := h, toks := tk }) :
    wpAny (model PG w) (callerA.deeper (lawEnv L a cd)) (exec (lapSt 3) (lawEnv L a cd)) Q E s := by
  have hfill : hd.heap_1 = hd.heap_1 ∧ PySem.Challenge.rw_pq0288_01 = PySem.Challenge.rw_pq0288_01 := by k_fill; exact ⟨rfl, rfl⟩
  clear hfill
  have q0 : @LT.lt Nat _ A.dx A.ls := hA.lt 0 8 rfl rfl rfl
  unfold lawEnv
  conv in lapSt 3 => whnf
  conv in (occs := *) lawScope => all_goals whnf
  k_steps
  rename Fr _ _ _ _ => fE
  rename News _ _ _ _ => nE
  rename IntsAre _ _ => hW9
  rw [all_t] at hW9
  rename ∀ (p : Addr × Obj), p ∈ ((_, listOf #[Value.int B.point B.tp] _) :: _) → p.1 < _ => lA
  rename ∀ (p : Addr × Obj), p ∈ (bufL _ _ _ ++ gapL _ _ _ ++ _) → p.1 < _ => lB
  rename Obj.data _ = Data.cell (some _) => hc9
  refine hQ _ _ _ _ _ _ _ _ _ (ints_places K B) hW9 (lt_sub lA (by nest_cls)) (lt_sub lB (by nest_cls)) (lB _ (by tb_start)) hc9 fE (News.sub nE (by (try dsimp only); nest_cls))

end Mine

namespace Mine

theorem law_p1 (w : World) (A : BufA) (hA : A.ok) {h₀ : Heap} {mean : ExcName → Option Value} {mg mb : Str → Option Value} {s : Shared} {E : Value → Shared → Prop} {Q : Flow → Shared → Prop} (L a : Addr) (cd : Value) (m : Str → Option Value)
    (kX : (hd.heap_1 w.params).In h₀) (kT : Top H.qv (looseW H.qv LS) mean mg mb h₀) (kB : Below callerA h₀ [] h₀)
    (ow : Addr) (no : Nat) (X : List (Addr × Obj)) (B : BufS) (S : GapS) (t : List Int) (n : Nat) (GT : GapT S t n) (ht : t.length ≤ 40) (K : MkS)
    (F : Fr h₀ L s.heap (kstB m [(Str.ofString "own", Value.ref ow), (Str.ofString "buffer", Value.ref A.bx)]))
    (N : News h₀ L s.heap ([(ow, ownL A no)] ++ (bufL w.params A B ++ gapL w.params A.G S ++ mkL w.params A.M K ++ X)))
    (how : @LT.lt Nat _ A.ls ow) (oX1 : OffB w.params A X) (oX2 : OffG w.params A.G X)
    (hQ : ∀ (e tx : Addr) (evs tvs : List Value) (ne nt : Nat) h tk, IntsAre evs (places K ++ [B.point]) → IntsAre tvs t → (∀ p ∈ [(ow, ownL A no)] ++ (bufL w.params A B ++ gapL w.params A.G S ++ mkL w.params A.M K ++ X), p.1 < e) → (∀ p ∈ [(ow, ownL A no)] ++ (bufL w.params A B ++ gapL w.params A.G S ++ mkL w.params A.M K ++ X), p.1 < tx) → @LT.lt Nat _ e tx →
      Fr h₀ L h (fun y => if y = Str.ofString "elder" then some (.ref e) else if y = Str.ofString "text" then some (.ref tx) else kstB m [(Str.ofString "own", Value.ref ow), (Str.ofString "buffer", Value.ref A.bx)] y) → News h₀ L h ([(e, listOf evs.toArray ne)] ++ ([(tx, listOf tvs.toArray nt)] ++ ([(ow, ownL A no)] ++ (bufL w.params A B ++ gapL w.params A.G S ++ mkL w.params A.M K ++ X)))) → Q .next { s with heap := h, toks := tk }) :
    wpAny (model PG w) (callerA.deeper (lawEnv L a cd)) (exec (lapSt 1) (lawEnv L a cd)) Q E s := by
  have hfill : hd.heap_1 = hd.heap_1 ∧ PySem.Challenge.rw_pq0288_01 = PySem.Challenge.rw_pq0288_01 := by k_fill; exact ⟨rfl, rfl⟩
  clear hfill
  unfold lawEnv
  conv in lapSt 1 => whnf
  conv in (occs := *) lawScope => all_goals whnf
  k_steps
  rename Fr _ _ _ _ => fE
  rename News _ _ _ _ => nE
  rename IntsAre _ _ => hW9
  rw [all_t] at hW9
  rename ∀ (p : Addr × Obj), p ∈ ((_, listOf #[Value.int B.point B.tp] _) :: _) → p.1 < _ => lA
  rename ∀ (p : Addr × Obj), p ∈ (bufL _ _ _ ++ gapL _ _ _ ++ _) → p.1 < _ => lB
  refine hQ _ _ _ _ _ _ _ _ (ints_places K B) hW9 (lt_sub lA (by nest_cls)) (lt_sub lB (by nest_cls)) (lB _ (by tb_start)) fE (News.sub nE (by (try dsimp only); nest_cls))

end Mine

end Lay40

section Lay41
open PySem PySem.Spec PySem.Calls PySem.W PyProof.Rows

theorem Mine.lay41 : True := by
  w_top off
  k_with "~L41:ktr_room" => k_extra "~w0"
  k_with "~L41:is_list" => k_extra "~w5"
  k_with "~L41:k_enter" => k_extra "~w52"
  k_with "~L41:top_caught0" => k_extra "~w53"
  k_with "~L41:k_ne" => k_extra "~w54"
  k_with "~L41:l_idx" => k_extra "~w55"
  k_with "~L41:ktr_room" => k_extra "~w2"
  k_with "~L41:ktr_units" => k_extra "~w2"
  k_with "~L41:ktr_room" => k_extra "~w3"
  k_with "~L41:ktr_units" => k_extra "~w4"
  k_with "~L41:k_mem" => k_extra "~w57"
  k_with "~L41:k_inst" => k_extra "~w59"
  k_with "~L41:tlg_ne" => k_extra "~w62"
  k_with "~L41:k_all" => k_extra "~w63"
  k_with "~L41:lcg_off" => k_extra "~w64"
  k_with "~L41:k_lt" => k_extra "~w65"
  k_with "~L41:k_upd" => k_extra "~w66"
  k_with "~L41:k_updF" => k_extra "~w67"
  k_with "~L41:setAttr ref" => k_extra "~w68"
  k_with "~L41:setAttr ref" => k_extra "~w69"
  k_with "~L41:setAttr ref" => k_extra "~w70"
  k_with "~L41:tlg_ne" => k_extra "~w118"
  k_with "~L41:k_lt" => k_extra "~w119"
  k_with "~L41:call ref" => k_extra "~w120"
  k_with "~L41:call ref" => k_extra "~w150"
  k_with "~L41:call ref" => k_extra "~w151"
  k_with "~L41:call ref" => k_extra "~w152"
  k_with "~L41:call ref" => k_extra "~w153"
  trivial

namespace Mine

theorem nar_p (x y p : Int) : min x y ≤ min (max p (min x y)) (max x y) := Int.le_min.mpr ⟨Int.le_max_right .., Int.le_trans (Int.min_le_left ..) (Int.le_max_left ..)⟩
theorem law_p0 (w : World) (A : BufA) (hA : A.ok) {h₀ : Heap} {mean : ExcName → Option Value} {mg mb : Str → Option Value} {s : Shared} {E : Value → Shared → Prop} {Q : Flow → Shared → Prop} (L a : Addr) (cd : Value) (m : Str → Option Value)
    (kX : (hd.heap_1 w.params).In h₀) (kT : Top H.qv (looseW H.qv LS) mean mg mb h₀) (kB : Below callerA h₀ [] h₀)
    (dk : Addr) (X : List (Addr × Obj)) (vs : List Value) (ds : List Int) (nd : Nat) (hv : IntsAre vs ds) (hD : DeckOk ds) (B : BufS) (S : GapS) (t : List Int) (n : Nat) (GT : GapT S t n) (ht : t.length ≤ 40)
    (h0 : 1 ≤ B.begv) (h1 : B.begv ≤ B.point) (h2 : B.point ≤ B.zv) (h3 : B.zv ≤ t.length + 1)
    (F : Fr h₀ L s.heap (kstB m [(Str.ofString "deck", Value.ref dk), (Str.ofString "buffer", Value.ref A.bx)]))
    (N : News h₀ L s.heap ([(dk, listOf vs.toArray nd)] ++ (bufL w.params A B ++ gapL w.params A.G S ++ X)))
    (hdk : @LT.lt Nat _ dk A.dx) (oX1 : OffB w.params A X) (oX2 : OffG w.params A.G X) (oX4 : OffD dk X)
    (hQ : ∀ (vs' : List Value) (ds' : List Int) (nd' : Nat) (B' : BufS) h tk, IntsAre vs' ds' → DeckOk ds' → 1 ≤ B'.begv → B'.begv ≤ B'.point → B'.point ≤ B'.zv → B'.zv ≤ t.length + 1 →
      Fr h₀ L h (kstB m [(Str.ofString "deck", Value.ref dk), (Str.ofString "buffer", Value.ref A.bx)]) → News h₀ L h ([(dk, listOf vs'.toArray nd')] ++ (bufL w.params A B' ++ gapL w.params A.G S ++ X)) → Q .next { s with heap := h, toks := tk }) :
    wpAny (model PG w) (callerA.deeper (lawEnv L a cd)) (exec (lapSt 0) (lawEnv L a cd)) Q E s := by
  have hfill : hd.heap_1 = hd.heap_1 ∧ PySem.Challenge.rw_pq0288_01 = PySem.Challenge.rw_pq0288_01 := by k_fill; exact ⟨rfl, rfl⟩
  clear hfill
  unfold lawEnv
  conv in lapSt 0 => whnf
  conv in (occs := *) lawScope => all_goals whnf
  k_steps
  all_goals rename Fr _ _ _ _ => fE
  all_goals rename News _ _ _ _ => nE
  all_goals rename DeckOk _ => hD9
  · refine hQ _ _ _ _ _ _ ?_ hD9 ?_ ?_ ?_ ?_ fE (News.sub nE (by (try dsimp only); nest_cls))
    · with_reducible assumption
    all_goals (rename BufS.begv _ = _ => hb; rename BufS.zv _ = _ => hz; rename BufS.point _ = _ => hp)
    · rw [hb]; exact Int.le_min.mpr ⟨ed_lo (by with_reducible assumption), ed_lo (by with_reducible assumption)⟩
    · rw [hb, hp]; exact nar_p ..
    · rw [hp, hz]; exact Int.min_le_right ..
    · rw [hz]; exact Int.max_le.mpr ⟨ed_s (by with_reducible assumption), ed_s (by with_reducible assumption)⟩
  · refine hQ _ _ _ _ _ _ ?_ hD9 ?_ ?_ ?_ ?_ fE (News.sub nE (by (try dsimp only); nest_cls))
    · with_reducible assumption
    all_goals assumption

theorem law_p9 (w : World) (A : BufA) (hA : A.ok) {h₀ : Heap} {mean : ExcName → Option Value} {mg mb : Str → Option Value} {s : Shared} {E : Value → Shared → Prop} {Q : Flow → Shared → Prop} (L a : Addr) (cd : Value) (m : Str → Option Value)
    (kX : (hd.heap_1 w.params).In h₀) (kT : Top H.qv (looseW H.qv LS) mean mg mb h₀) (kB : Below callerA h₀ [] h₀)
    (dk : Addr) (X : List (Addr × Obj)) (vs : List Value) (ds : List Int) (nd : Nat) (hv : IntsAre vs ds) (hD : DeckOk ds) (B : BufS) (S : GapS) (t : List Int) (n : Nat) (GT : GapT S t n) (ht : t.length ≤ 40)
    (h0 : 1 ≤ B.begv) (h1 : B.begv ≤ B.point) (h2 : B.point ≤ B.zv) (h3 : B.zv ≤ t.length + 1)
    (F : Fr h₀ L s.heap (kstB m [(Str.ofString "deck", Value.ref dk), (Str.ofString "buffer", Value.ref A.bx)]))
    (N : News h₀ L s.heap ([(dk, listOf vs.toArray nd)] ++ (bufL w.params A B ++ gapL w.params A.G S ++ X)))
    (hdk : @LT.lt Nat _ dk A.dx) (oX1 : OffB w.params A X) (oX2 : OffG w.params A.G X) (oX4 : OffD dk X)
    (hQ : ∀ (vs' : List Value) (ds' : List Int) (nd' : Nat) (B' : BufS) h tk, IntsAre vs' ds' → DeckOk ds' → 1 ≤ B'.begv → B'.begv ≤ B'.point → B'.point ≤ B'.zv → B'.zv ≤ t.length + 1 →
      Fr h₀ L h (kstB m [(Str.ofString "deck", Value.ref dk), (Str.ofString "buffer", Value.ref A.bx)]) → News h₀ L h ([(dk, listOf vs'.toArray nd')] ++ (bufL w.params A B' ++ gapL w.params A.G S ++ X)) → Q .next { s with heap := h, toks := tk }) :
    wpAny (model PG w) (callerA.deeper (lawEnv L a cd)) (exec (lapSt 9) (lawEnv L a cd)) Q E s := by
  have hfill : hd.heap_1 = hd.heap_1 ∧ PySem.Challenge.rw_pq0288_01 = PySem.Challenge.rw_pq0288_01 := by k_fill; exact ⟨rfl, rfl⟩
  clear hfill
  unfold lawEnv
  conv in lapSt 9 => whnf
  conv in (occs := *) lawScope => all_goals whnf
  k_steps
  all_goals rename Fr _ _ _ _ => fE
  all_goals rename News _ _ _ _ => nE
  all_goals rename DeckOk _ => hD9
  · refine hQ _ _ _ _ _ _ ?_ hD9 ?_ ?_ ?_ ?_ fE (News.sub nE (by (try dsimp only); nest_cls))
    · with_reducible assumption
    all_goals (rename BufS.begv _ = _ => hb; rename BufS.zv _ = _ => hz; rename BufS.point _ = _ => hp; omega)
  · refine hQ _ _ _ _ _ _ ?_ hD9 ?_ ?_ ?_ ?_ fE (News.sub nE (by (try dsimp only); nest_cls))
    · with_reducible assumption
    all_goals assumption

theorem law_goto (w : World) (A : BufA) (hA : A.ok) {h₀ : Heap} {mean : ExcName → Option Value} {mg mb : Str → Option Value} {s : Shared} {E : Value → Shared → Prop} {Q : Flow → Shared → Prop} (L a : Addr) (cd : Value) (m : Str → Option Value)
    (kX : (hd.heap_1 w.params).In h₀) (kT : Top H.qv (looseW H.qv LS) mean mg mb h₀) (kB : Below callerA h₀ [] h₀)
    (dk : Addr) (X : List (Addr × Obj)) (vs : List Value) (ds : List Int) (nd : Nat) (hv : IntsAre vs ds) (hD : DeckOk ds) (B : BufS) (S : GapS) (t : List Int) (n : Nat) (GT : GapT S t n) (ht : t.length ≤ 40)
    (h0 : 1 ≤ B.begv) (h1 : B.begv ≤ B.point) (h2 : B.point ≤ B.zv) (h3 : B.zv ≤ t.length + 1)
    (F : Fr h₀ L s.heap (kstB m [(Str.ofString "deck", Value.ref dk), (Str.ofString "buffer", Value.ref A.bx)]))
    (N : News h₀ L s.heap ([(dk, listOf vs.toArray nd)] ++ (bufL w.params A B ++ gapL w.params A.G S ++ X)))
    (hdk : @LT.lt Nat _ dk A.dx) (oX1 : OffB w.params A X) (oX2 : OffG w.params A.G X) (oX4 : OffD dk X)
    (hQ : ∀ (vs' : List Value) (ds' : List Int) (nd' : Nat) (B' : BufS) h tk, IntsAre vs' ds' → DeckOk ds' → 1 ≤ B'.begv → B'.begv ≤ B'.point → B'.point ≤ B'.zv → B'.zv ≤ t.length + 1 →
      Fr h₀ L h (kstB m [(Str.ofString "deck", Value.ref dk), (Str.ofString "buffer", Value.ref A.bx)]) → News h₀ L h ([(dk, listOf vs'.toArray nd')] ++ (bufL w.params A B' ++ gapL w.params A.G S ++ X)) → Q .next { s with heap := h, toks := tk }) :
    wpAny (model PG w) (callerA.deeper (lawEnv L a cd)) (exec (lawSt 5) (lawEnv L a cd)) Q E s := by
  have hfill : hd.heap_1 = hd.heap_1 ∧ PySem.Challenge.rw_pq0288_01 = PySem.Challenge.rw_pq0288_01 := by k_fill; exact ⟨rfl, rfl⟩
  clear hfill
  unfold lawEnv
  conv in lawSt 5 => whnf
  conv in (occs := *) lawScope => all_goals whnf
  k_steps
  all_goals rename Fr _ _ _ _ => fE
  all_goals rename News _ _ _ _ => nE
  all_goals rename DeckOk _ => hD9
  · refine hQ _ _ _ _ _ _ ?_ hD9 ?_ ?_ ?_ ?_ fE (News.sub nE (by (try dsimp only); nest_cls))
    · with_reducible assumption
    all_goals (rename BufS.begv _ = _ => hb; rename BufS.zv _ = _ => hz; rename BufS.point _ = _ => hp; omega)

end Mine

end Lay41

section Lay42
open PySem PySem.Spec PySem.Calls PySem.W PyProof.Rows

theorem Mine.lay42 : True := by
  w_top off
  k_with "~L42:ktr_room" => k_extra "~w0"
  k_with "~L42:is_list" => k_extra "~w5"
  k_with "~L42:k_enter" => k_extra "~w52"
  k_with "~L42:top_caught0" => k_extra "~w53"
  k_with "~L42:k_ne" => k_extra "~w54"
  k_with "~L42:l_idx" => k_extra "~w55"
  k_with "~L42:ktr_room" => k_extra "~w2"
  k_with "~L42:ktr_units" => k_extra "~w2"
  k_with "~L42:ktr_room" => k_extra "~w3"
  k_with "~L42:ktr_units" => k_extra "~w4"
  k_with "~L42:k_mem" => k_extra "~w57"
  k_with "~L42:k_inst" => k_extra "~w59"
  k_with "~L42:tlg_ne" => k_extra "~w62"
  k_with "~L42:k_all" => k_extra "~w63"
  k_with "~L42:lcg_off" => k_extra "~w64"
  k_with "~L42:k_lt" => k_extra "~w65"
  k_with "~L42:k_upd" => k_extra "~w66"
  k_with "~L42:k_updF" => k_extra "~w67"
  k_with "~L42:setAttr ref" => k_extra "~w68"
  k_with "~L42:setAttr ref" => k_extra "~w69"
  k_with "~L42:setAttr ref" => k_extra "~w70"
  k_with "~L42:lcg_off" => k_extra "~w154"
  k_with "~L42:tlg_ne" => k_extra "~w155"
  k_with "~L42:k_inst" => k_extra "~w130"
  k_with "~L42:tlg_ne" => k_extra "~w118"
  k_with "~L42:k_lt" => k_extra "~w119"
  k_with "~L42:exec For Name Call cons nil" => k_extra "~w131"
  k_with "~L42:pyIter ref" => k_extra "~w132"
  k_with "~L42:UnrEnd" => k_extra "~w133"
  k_with "~L42:call ref" => k_extra "~w134"
  k_with "~L42:call ref" => k_extra "~w156"
  k_with "~L42:call ref" => k_extra "~w157"
  k_with "~L42:call ref" => k_extra "~w158"
  k_with "~L42:call ref" => k_extra "~w136"
  k_with "~L42:call ref" => k_extra "~w137"
  trivial

namespace Mine

theorem init_len {r : Int} {n : Nat} (h : 0 ≤ r) (h' : r < 6) (e : n = (3 + r - 0).toNat) : n ≤ 8 := by
  rw [e]; exact Int.toNat_le.mpr (by omega)
theorem law_init (w : World) {h₀ : Heap} {mean : ExcName → Option Value} {mg mb : Str → Option Value} {s : Shared} {E : Value → Shared → Prop} {Q : Flow → Shared → Prop} (L a : Addr) (cd : Value) (m : Str → Option Value)
    (kX : (hd.heap_1 w.params).In h₀) (kT : Top H.qv (looseW H.qv LS) mean mg mb h₀) (kB : Below callerA h₀ [] h₀)
    (sl : Addr) (vs : List Value) (is : List Int) (oc : Obj) (hs : IntsAre vs is) (hl : h₀.IsList sl vs.toArray) (hn : ¬ (63 : Int) < is.length)
    (F : Fr h₀ L s.heap (kstB m [(Str.ofString "script", .ref sl)])) (N : News h₀ L s.heap [(L + 1, oc)])
    (hQ : ∀ (A : BufA) (dk ow so : Addr) (vs : List Value) (ds : List Int) (nd no ns : Nat) (B : BufS) (S : GapS) (t : List Int) (kt : Tok) (o : Obj) h tk m',
      (∀ p ∈ [(Str.ofString "deck", Value.ref dk), (Str.ofString "buffer", .ref A.bx), (Str.ofString "own", .ref ow), (Str.ofString "sorts", .ref so)], m' p.1 = some p.2) →
      Low A → @LT.lt Nat _ dk A.dx → @LT.lt Nat _ A.ls ow → @LT.lt Nat _ ow so → @Ne Nat (L + 1) dk → @LT.lt Nat _ (L + 1) A.dx → IntsAre vs ds → DeckOk ds → GapT S t 44 → t.length ≤ 8 → B.begv = 1 → B.zv = t.length + 1 → B.point = t.length + 1 → o.IsDictOf (PySem.intKind PG w) [] →
      Fr h₀ L h m' → News h₀ L h (numLed w.params A B S kt dk ow so [(L + 1, oc)] ⟨vs, ds, nd, [], [], no, [], ns, o⟩) → Q .next { s with heap := h, toks := tk }) :
    wpAny (model PG w) (callerA.deeper (lawEnv L a cd)) (execs (lawHead) (lawEnv L a cd)) Q E s := by
  have hfill : hd.heap_1 = hd.heap_1 ∧ PySem.Challenge.rw_pq0288_01 = PySem.Challenge.rw_pq0288_01 := by k_fill; exact ⟨rfl, rfl⟩
  clear hfill
  unfold lawEnv
  conv in lawHead => whnf
  conv in (occs := *) lawScope => all_goals whnf
  k_steps
  dsimp only
  rename Fr _ _ _ _ => fE
  rename News _ _ _ _ => nE
  rename Low _ => hL9
  rename GapT _ _ (2 + 42) => hg9
  rename DeckOk _ => hD9
  rename BufS.point _ = _ + _ => hp9
  rename BufS.zv _ = _ + _ => hz9
  rename BufS.begv _ = BufS.begv _ => hb9
  rename Obj.IsDictOf _ _ [] => hd9
  rename _ ∧ _ ∧ BufS.zv _ = 1 => hx7
  rename List.length _ = Int.toNat (3 + _ - 0) => hl9
  rename @LT.lt Nat _ _ (BufA.dx _) => hk9
  refine hQ _ _ _ _ _ _ _ _ _ _ _ _ _ _ _ _ _ (List.forall_mem_cons.mpr ⟨rfl, List.forall_mem_cons.mpr ⟨rfl, List.forall_mem_cons.mpr ⟨rfl, List.forall_mem_cons.mpr ⟨rfl, List.forall_mem_nil _⟩⟩⟩⟩) hL9 hk9 ?_ ?_ ?_ ?_ ?_ hD9 hg9 ?_ ?_ ?_ ?_ hd9 fE (News.sub nE (by (try dsimp only [numLed, marksL, List.nil_append]); nest_cls))
  · omega
  · omega
  · first | (rename _ ≠ _ ∧ _ + 1 ≠ _ => hcj; exact hcj.2) | omega
  · omega
  · with_reducible assumption
  · exact init_len (by with_reducible assumption) (by with_reducible assumption) hl9
  · rw [hb9]; exact hx7.2.1
  · rw [hz9, hx7.2.2, hl9]; exact Int.add_comm ..
  · rw [hp9, hx7.1, hl9]; exact Int.add_comm ..

end Mine

end Lay42

section Lay43
open PySem PySem.Spec PySem.Calls PySem.W PyProof.Rows

theorem Mine.lay43 : True := by
  w_top off
  k_with "~L43:ktr_room" => k_extra "~w0"
  k_with "~L43:is_list" => k_extra "~w5"
  k_with "~L43:k_enter" => k_extra "~w52"
  k_with "~L43:top_caught0" => k_extra "~w53"
  k_with "~L43:k_ne" => k_extra "~w54"
  k_with "~L43:l_idx" => k_extra "~w55"
  k_with "~L43:ktr_room" => k_extra "~w2"
  k_with "~L43:ktr_units" => k_extra "~w2"
  k_with "~L43:ktr_room" => k_extra "~w3"
  k_with "~L43:ktr_units" => k_extra "~w4"
  k_with "~L43:k_mem" => k_extra "~w57"
  k_with "~L43:k_inst" => k_extra "~w59"
  k_with "~L43:tlg_ne" => k_extra "~w62"
  k_with "~L43:k_all" => k_extra "~w63"
  k_with "~L43:lcg_off" => k_extra "~w64"
  k_with "~L43:k_lt" => k_extra "~w65"
  k_with "~L43:k_upd" => k_extra "~w66"
  k_with "~L43:k_updF" => k_extra "~w67"
  k_with "~L43:setAttr ref" => k_extra "~w68"
  k_with "~L43:setAttr ref" => k_extra "~w69"
  k_with "~L43:setAttr ref" => k_extra "~w70"
  k_with "~L43:tlg_ne" => k_extra "~w118"
  k_with "~L43:k_lt" => k_extra "~w119"
  k_with "~L43:tlg_ne" => k_extra "~w71"
  k_with "~L43:subscriptTail Name Slice ref ref" => k_extra "~w141"
  k_with "~L43:subscriptTail Name Name ref int" => k_extra "~w127"
  trivial

namespace Mine

structure LapS where
  vs : List Value
  ds : List Int
  nd : Nat
  B : BufS
  S : GapS
  t : List Int
  K : MkS
  oc : Obj
def lapLed (P : Params) (A : BufA) (L dk ow so : Addr) (no : Nat) (svs : List Value) (ns : Nat) (c : LapS) : List (Addr × Obj) :=
  [(dk, listOf c.vs.toArray c.nd)] ++ ([(ow, ownL A no)] ++ ([(so, listOf svs.toArray ns)] ++ (bufL P A c.B ++ gapL P A.G c.S ++ mkL P A.M c.K ++ [(L + 1, c.oc)])))
structure LapOk (w : World) (A : BufA) (sg : List Int) (i : Nat) (c : LapS) : Prop where
  hv : IntsAre c.vs c.ds
  hD : DeckOk c.ds
  gt : GapT c.S c.t (44 + 42 * i)
  tl : c.t.length ≤ 8 + 3 * i
  z0 : 1 ≤ c.B.begv
  z1 : c.B.begv ≤ c.B.point
  z2 : c.B.point ≤ c.B.zv
  z3 : c.B.zv ≤ c.t.length + 1
  hr : RowsIs w A.M c.K.o
  pos : ∀ p ∈ places c.K, 1 ≤ p ∧ p ≤ (c.t.length : Int) + 1
  sg : (pairs c.K).map sgn = sg
  oc : ∃ v, c.oc.data = .cell v
abbrev lapNames (A : BufA) (dk ow so : Addr) : List (Str × Value) := [(Str.ofString "deck", .ref dk), (Str.ofString "buffer", .ref A.bx), (Str.ofString "own", .ref ow), (Str.ofString "sorts", .ref so)]
theorem own_off {P : Params} {A : BufA} {L dk ow so : Addr} {no ns : Nat} {svs : List Value} {own : List (Addr × Obj)} (ho : ∀ c', Off (lapLed P A L dk ow so no svs ns c') own) (c : LapS) :
    OffB P A own ∧ OffG P A.G own ∧ OffM P A.M own ∧ OffD dk own ∧ OffD ow own ∧ OffD so own ∧ OffD (L + 1) own := by
  have h := ho c
  have h1 := off_ofR h
  have h2 := off_ofR h1
  have h3 := off_ofR h2
  exact ⟨offB_of (off_ofL (off_ofL (off_ofL h3))), offG_of (off_ofR (off_ofL (off_ofL h3))), offM_of (off_ofR (off_ofL h3)), offD_of (off_ofL h), offD_of (off_ofL h1), offD_of (off_ofL h2), offD_of (off_ofR h3)⟩
theorem offD_ne {d : Addr} {own : List (Addr × Obj)} (h : OffD d own) : ∀ p ∈ own, p.1 ≠ d := fun p hp e => h p.2 (d, p.2) (.head _) p hp e.symm
theorem fr_ps {h₀ h : Heap} {L : Addr} {M : Str → Option Value} (F : Fr h₀ L h M) (ps : List (Str × Value)) (hM : ∀ p ∈ ps, M p.1 = some p.2) : Fr h₀ L h (kstB M ps) := by rw [kstB_self hM]; exact F

theorem law_lap (w : World) (A : BufA) (hA : A.ok) {h₀ : Heap} {mean : ExcName → Option Value} {mg mb : Str → Option Value} {s : Shared} {E : Value → Shared → Prop} {Q : Flow → Shared → Prop} (L a : Addr) (cd : Value) (m : Str → Option Value)
    (kX : (hd.heap_1 w.params).In h₀) (kT : Top H.qv (looseW H.qv LS) mean mg mb h₀) (kB : Below callerA h₀ [] h₀)
    (dk ow so : Addr) (no ns : Nat) (svs : List Value) (sg : List Int) (hs : IntsAre svs sg) (i : Nat) (ti : Tok) (hi : i < 9) (c : LapS) (hP : LapOk w A sg i c) (own : List (Addr × Obj)) (ho : ∀ c', Off (lapLed w.params A L dk ow so no svs ns c') own)
    (n1 : NotIn A ow) (n2 : NotIn A so) (how : @LT.lt Nat _ A.ls ow) (hos : @LT.lt Nat _ ow so) (hdk : @LT.lt Nat _ dk A.dx) (hL : @LT.lt Nat _ (L + 1) A.dx) (hLd : @Ne Nat (L + 1) dk)
    (F : Fr h₀ L s.heap (fun y => if y = Str.ofString "lap" then some (.int (0 + (i : Int)) ti) else kstB m (lapNames A dk ow so) y))
    (N : News h₀ L s.heap (lapLed w.params A L dk ow so no svs ns c ++ own))
    (hE : PassesOwn (model PG w) (callerA.deeper (lawEnv L a cd)) (lawEnv L a cd) E) :
    wpAny (model PG w) (callerA.deeper (lawEnv L a cd)) (execs lapBody (lawEnv L a cd)) (RgPost h₀ L (lapLed w.params A L dk ow so no svs ns) (fun _ => lapNames A dk ow so) (LapOk w A sg) own s i Q) E s := by
  obtain ⟨o1, o2, o3, o4, o5, o6, o7⟩ := own_off ho c
  have p5 := offD_ne o5
  have p6 := offD_ne o6
  have p7 := offD_ne o7
  have q0 : @LT.lt Nat _ A.dx A.ls := hA.lt 0 8 rfl rfl rfl
  have q1 : @LT.lt Nat _ A.dx A.M.m3 := hA.lt 0 16 rfl rfl rfl
  obtain ⟨vs, ds, nd, B, S, t, K, oc⟩ := c
  obtain ⟨hv, hD, gt, tl, z0, z1, z2, z3, hr, pos, rfl, ⟨cv, hoc⟩⟩ := hP
  dsimp only at hv hD gt tl z0 z1 z2 z3 hr pos hoc hs
  dsimp only [lapLed] at N
  rw [lap_is]
  have tl4 : t.length ≤ 40 := by omega
  have tl5 : t.length ≤ 50 := Nat.le_trans tl4 (by decide)
  have tn9 : 44 + 42 * i ≤ 900 := by omega
  have q2 : @LT.lt Nat _ dk ow := Nat.lt_trans hdk (Nat.lt_trans q0 how)
  have q3 : @LT.lt Nat _ dk so := Nat.lt_trans q2 hos
  have q4 : @LT.lt Nat _ (L + 1) ow := Nat.lt_trans hL (Nat.lt_trans q0 how)
  have q5 : @LT.lt Nat _ (L + 1) so := Nat.lt_trans q4 hos
  refine wpAny_execs_cons (law_p0 w A hA L a cd _ kX kT kB dk ([(ow, ownL A no)] ++ ([(so, listOf svs.toArray ns)] ++ (mkL w.params A.M K ++ ([(L + 1, oc)] ++ own)))) vs ds nd hv hD B S t _ gt (by first | with_reducible assumption | omega) z0 z1 z2 z3 (fr_ps F _ (List.forall_mem_cons.mpr ⟨rfl, List.forall_mem_cons.mpr ⟨rfl, List.forall_mem_nil _⟩⟩)) (News.sub N (by nest_cls)) hdk (fun _ => by lcg_off) (fun _ => by lcg_off) (fun _ => by lcg_off) ?_)
  clear F N hv hD z0 z1 z2 z3
  intro vs ds nd B h0 tk0 hv hD z0 z1 z2 z3 F0 N0
  refine wpAny_execs_cons (law_p1 w A hA L a cd _ kX kT kB ow no ([(dk, listOf vs.toArray nd)] ++ ([(so, listOf svs.toArray ns)] ++ ([(L + 1, oc)] ++ own))) B S t _ gt (by first | with_reducible assumption | omega) K (fr_ps F0 _ (List.forall_mem_cons.mpr ⟨rfl, List.forall_mem_cons.mpr ⟨rfl, List.forall_mem_nil _⟩⟩)) (News.sub N0 (by nest_cls)) how (fun _ => by lcg_off) (fun _ => by lcg_off) ?_)
  intro e tx evs tvs ne nt h1 tk1 he ht le lt lx F1 N1
  have me : @LT.lt Nat _ A.M.m3 e := hi_of le (by nest_cls)
  have mt : @LT.lt Nat _ A.M.m3 tx := hi_of lt (by nest_cls)
  have n3 := ni_of hA me
  have n4 := ni_of hA mt
  have e1 : @LT.lt Nat _ so e := le (so, listOf svs.toArray ns) (by tb_start)
  have e2 : @LT.lt Nat _ dk e := le (dk, listOf vs.toArray nd) (by tb_start)
  have e3 : @LT.lt Nat _ (L + 1) e := le (L + 1, oc) (by tb_start)
  have e4 : ∀ p ∈ own, p.1 ≠ e := ne_below le (by nest_cls)
  have e5 : ∀ p ∈ own, p.1 ≠ tx := ne_below lt (by nest_cls)
  clear le lt
  refine wpAny_execs_cons (law_p2 w A hA L a cd _ kX kT kB dk ([(e, listOf evs.toArray ne)] ++ ([(tx, listOf tvs.toArray nt)] ++ ([(ow, ownL A no)] ++ ([(so, listOf svs.toArray ns)] ++ ([(L + 1, oc)] ++ own))))) vs ds nd hv hD B S t _ gt (by first | with_reducible assumption | omega) (by first | with_reducible assumption | omega) K hr i ti hi z0 z1 z2 z3 (fr_ps F1 _ (List.forall_mem_cons.mpr ⟨rfl, List.forall_mem_cons.mpr ⟨rfl, List.forall_mem_cons.mpr ⟨rfl, List.forall_mem_nil _⟩⟩⟩)) (News.sub N1 (by nest_cls)) hdk (fun _ => by lcg_off) (fun _ => by lcg_off) (fun _ => by lcg_off) (fun _ => by lcg_off) ?_)
  intro r h2 tk2 hE2 F2 N2
  have hG := hE2.gap
  have hv2 := hE2.hv
  have hD2 := hE2.hd
  have hA2 := asked hE2 z0 z1 z2 z3 pos
  revert hG hA2
  generalize (t.take (r.lo - 1).toNat ++ r.mid ++ t.drop (r.hi - 1).toNat) = u
  intro hG hA2
  have lu := hA2.ul
  have ul4 : u.length ≤ 40 := by omega
  have ul5 : u.length ≤ 50 := Nat.le_trans ul4 (by decide)
  refine wpAny_execs_cons (law_p3 w A hA L a cd _ kX kT kB ow no oc cv hoc ([(dk, listOf r.vs.toArray r.nd)] ++ ([(e, listOf evs.toArray ne)] ++ ([(tx, listOf tvs.toArray nt)] ++ ([(so, listOf svs.toArray ns)] ++ own)))) r.B r.S u _ hG (by first | with_reducible assumption | omega) r.K (fr_ps F2 _ (List.forall_mem_cons.mpr ⟨rfl, List.forall_mem_cons.mpr ⟨rfl, List.forall_mem_nil _⟩⟩)) (News.sub N2 (by nest_cls)) how hL (fun _ => by lcg_off) (fun _ => by lcg_off) (fun _ => by lcg_off) (by first | tlg_ne | fail) ?_)
  intro l nx oc' lvs uvs nl nu h3 tk3 hl hu ll ln lx2 hoc' F3 N3
  have ml : @LT.lt Nat _ A.M.m3 l := hi_of ll (by nest_cls)
  have mn : @LT.lt Nat _ A.M.m3 nx := hi_of ln (by nest_cls)
  have n5 := ni_of hA ml
  have n6 := ni_of hA mn
  have f1 : @LT.lt Nat _ e l := ll (e, listOf evs.toArray ne) (by tb_start)
  have f2 : @LT.lt Nat _ tx l := ll (tx, listOf tvs.toArray nt) (by tb_start)
  have f3 : @LT.lt Nat _ (L + 1) l := ll (L + 1, oc) (by tb_start)
  have f4 : @LT.lt Nat _ dk l := ll (dk, listOf r.vs.toArray r.nd) (by tb_start)
  have f5 : ∀ p ∈ own, p.1 ≠ l := ne_below ll (by nest_cls)
  have f6 : ∀ p ∈ own, p.1 ≠ nx := ne_below ln (by nest_cls)
  clear ll ln
  have sl : (List.map sgn (pairs K)).length = 4 := rfl
  refine wpAny_execs_cons (law_p4 w L a cd _ kX kT kB e l so ([(tx, listOf tvs.toArray nt)] ++ ([(nx, listOf uvs.toArray nu)] ++ ([(ow, ownL A no)] ++ ((bufL w.params A r.B ++ gapL w.params A.G r.S ++ mkL w.params A.M r.K) ++ ([(L + 1, oc')] ++ ([(dk, listOf r.vs.toArray r.nd)] ++ own)))))) evs lvs svs _ _ _ ne nl ns he hl hs rfl rfl sl r.led hA2.H4 hA2.H5 (fr_ps F3 _ (List.forall_mem_cons.mpr ⟨rfl, List.forall_mem_cons.mpr ⟨rfl, List.forall_mem_cons.mpr ⟨rfl, List.forall_mem_cons.mpr ⟨rfl, List.forall_mem_nil _⟩⟩⟩⟩)) (News.sub N3 (by nest_cls)) e1 f1 (fun _ => by lcg_off) (fun _ => by lcg_off) (fun _ => by lcg_off) ?_)
  intro h4 tk4 F4 N4
  refine wpAny_execs_cons (law_p5 w A hA L a cd _ kX kT kB l nx ([(e, listOf evs.toArray ne)] ++ ([(tx, listOf tvs.toArray nt)] ++ ([(so, listOf svs.toArray ns)] ++ ([(ow, ownL A no)] ++ (gapL w.params A.G r.S ++ mkL w.params A.M r.K ++ ([(dk, listOf r.vs.toArray r.nd)] ++ own)))))) lvs uvs _ u nl nu hl hu rfl (by first | with_reducible assumption | omega) oc' hoc' r.B hA2.HP hA2.z1 hA2.z2 (fr_ps F4 _ (List.forall_mem_cons.mpr ⟨rfl, List.forall_mem_cons.mpr ⟨rfl, List.forall_mem_nil _⟩⟩)) (News.sub N4 (by nest_cls)) ?_)
  intro h5 tk5 F5 N5
  refine wpAny_execs_cons (law_p6 w L a cd _ kX kT kB tx ([(l, listOf lvs.toArray nl)] ++ ([(nx, listOf uvs.toArray nu)] ++ ([(e, listOf evs.toArray ne)] ++ ([(so, listOf svs.toArray ns)] ++ ([(ow, ownL A no)] ++ ((bufL w.params A r.B ++ gapL w.params A.G r.S ++ mkL w.params A.M r.K) ++ ([(L + 1, oc')] ++ ([(dk, listOf r.vs.toArray r.nd)] ++ own)))))))) tvs t nt ht (by first | with_reducible assumption | omega) r.hi r.t2 (fr_ps F5 _ (List.forall_mem_cons.mpr ⟨rfl, List.forall_mem_cons.mpr ⟨rfl, List.forall_mem_nil _⟩⟩)) (News.sub N5 (by nest_cls)) ?_)
  intro tr h6 tk6 F6 N6
  have g1 := hA2.lo1
  refine wpAny_execs_cons (law_p7 w L a cd _ kX kT kB tx nx ([(e, listOf evs.toArray ne)] ++ ([(l, listOf lvs.toArray nl)] ++ ([(so, listOf svs.toArray ns)] ++ ([(ow, ownL A no)] ++ ((bufL w.params A r.B ++ gapL w.params A.G r.S ++ mkL w.params A.M r.K) ++ ([(dk, listOf r.vs.toArray r.nd)] ++ own)))))) tvs uvs t u nt nu ht hu (by first | with_reducible assumption | omega) (by first | with_reducible assumption | omega) r.lo ((t.length : Int) + 1 - r.hi) r.t1 tr oc' hoc' hA2.lo0 (by first | with_reducible assumption | omega) hA2.re0 hA2.re1 hA2.re2 hA2.S1 hA2.S2 (fr_ps F6 _ (List.forall_mem_cons.mpr ⟨rfl, List.forall_mem_cons.mpr ⟨rfl, List.forall_mem_cons.mpr ⟨rfl, List.forall_mem_nil _⟩⟩⟩)) (News.sub N6 (by nest_cls)) ?_)
  intro h7 tk7 F7 N7
  have he5 : ∀ k ∈ places K ++ [B.point], (1 : Int) ≤ k := fun k hk => (List.mem_append.mp hk).elim (fun hk => (pos k hk).1) fun hk => by rcases List.mem_singleton.mp hk with rfl; omega
  refine wpAny_execs_cons (law_p8 w L a cd _ kX kT kB (.ref dk) (.ref A.bx) (.ref ow) (.ref so) e l tx nx ([(so, listOf svs.toArray ns)] ++ ([(ow, ownL A no)] ++ ((bufL w.params A r.B ++ gapL w.params A.G r.S ++ mkL w.params A.M r.K) ++ ([(dk, listOf r.vs.toArray r.nd)] ++ own)))) evs lvs tvs uvs _ _ t u ne nl nt nu he hl ht hu rfl rfl (by first | with_reducible assumption | omega) (by first | with_reducible assumption | omega) r.lo r.hi r.t1 r.t2 oc' hoc' (fun i hi => get_of he5 i hi) (fun i hi => get_of (fun k hk => (hA2.HP k hk).1) i hi) hA2.C1 hA2.C2 (fr_ps F7 _ (List.forall_mem_cons.mpr ⟨rfl, List.forall_mem_cons.mpr ⟨rfl, List.forall_mem_cons.mpr ⟨rfl, List.forall_mem_cons.mpr ⟨rfl, List.forall_mem_cons.mpr ⟨rfl, List.forall_mem_cons.mpr ⟨rfl, List.forall_mem_cons.mpr ⟨rfl, List.forall_mem_cons.mpr ⟨rfl, List.forall_mem_cons.mpr ⟨rfl, List.forall_mem_nil _⟩⟩⟩⟩⟩⟩⟩⟩⟩)) (News.sub N7 (by nest_cls)) hE ?_)
  intro m8 h8 tk8 F8 N8
  refine wpAny_execs_cons (law_p9 w A hA L a cd _ kX kT kB dk (mkL w.params A.M r.K ++ ([(so, listOf svs.toArray ns)] ++ ([(ow, ownL A no)] ++ ([(L + 1, oc')] ++ own)))) r.vs r.ds r.nd hv2 hD2 r.B r.S u _ hG (by first | with_reducible assumption | omega) hA2.z0 hA2.z1 hA2.z2 hA2.z3 (fr_ps F8 _ (List.forall_mem_cons.mpr ⟨rfl, List.forall_mem_cons.mpr ⟨rfl, List.forall_mem_nil _⟩⟩)) (News.sub N8 (by nest_cls)) hdk (fun _ => by lcg_off) (fun _ => by lcg_off) (fun _ => by lcg_off) ?_)
  intro vs9 ds9 nd9 B9 h9 tk9 hv9 hD9 y0 y1 y2 y3 F9 N9
  have hr9 : RowsIs w A.M r.K.o := by rw [hA2.ro]; exact hr
  refine wpAny_execs_nil ?_
  refine rg_end (Led := lapLed w.params A L dk ow so no svs ns) (ps := fun _ => lapNames A dk ow so) ⟨vs9, ds9, nd9, B9, r.S, u, r.K, oc'⟩ F9 (News.sub N9 (by dsimp only [lapLed]; nest_cls)) (Sub.refl _) (List.forall_mem_cons.mpr ⟨rfl, List.forall_mem_cons.mpr ⟨rfl, List.forall_mem_cons.mpr ⟨rfl, List.forall_mem_cons.mpr ⟨rfl, List.forall_mem_nil _⟩⟩⟩⟩) ⟨hv9, hD9, ?_, ?_, y0, y1, y2, y3, hr9, ?_, hA2.sg, ⟨_, hoc'⟩⟩
  · have e : 44 + 42 * (i + 1) = 44 + 42 * i + 42 := by omega
    dsimp only
    rw [e]
    exact hG
  · dsimp only
    omega
  · exact fun k hk => hA2.HP k (List.mem_append_left _ hk)

end Mine

end Lay43

section Lay44
open PySem PySem.Spec PySem.Calls PySem.W PyProof.Rows

theorem Mine.lay44 : True := by
  w_top off
  k_with "~L44:ktr_room" => k_extra "~w0"
  k_with "~L44:is_list" => k_extra "~w5"
  k_with "~L44:k_enter" => k_extra "~w52"
  k_with "~L44:top_caught0" => k_extra "~w53"
  k_with "~L44:k_ne" => k_extra "~w54"
  k_with "~L44:l_idx" => k_extra "~w55"
  k_with "~L44:ktr_room" => k_extra "~w2"
  k_with "~L44:ktr_units" => k_extra "~w2"
  k_with "~L44:ktr_room" => k_extra "~w3"
  k_with "~L44:ktr_units" => k_extra "~w4"
  k_with "~L44:k_mem" => k_extra "~w57"
  k_with "~L44:k_inst" => k_extra "~w59"
  k_with "~L44:tlg_ne" => k_extra "~w62"
  k_with "~L44:k_all" => k_extra "~w63"
  k_with "~L44:lcg_off" => k_extra "~w64"
  k_with "~L44:k_lt" => k_extra "~w65"
  k_with "~L44:k_upd" => k_extra "~w66"
  k_with "~L44:k_updF" => k_extra "~w67"
  k_with "~L44:setAttr ref" => k_extra "~w68"
  k_with "~L44:setAttr ref" => k_extra "~w69"
  k_with "~L44:setAttr ref" => k_extra "~w70"
  k_with "~L44:tlg_ne" => k_extra "~w118"
  k_with "~L44:k_lt" => k_extra "~w119"
  k_with "~L44:tlg_ne" => k_extra "~w71"
  k_with "~L44:subscriptTail Name Slice ref ref" => k_extra "~w141"
  k_with "~L44:subscriptTail Name Name ref int" => k_extra "~w127"
  trivial

namespace Mine

theorem law_laps (w : World) (A : BufA) (hA : A.ok) {h₀ : Heap} {mean : ExcName → Option Value} {mg mb : Str → Option Value} {s : Shared} {E : Value → Shared → Prop} {Q : Flow → Shared → Prop} (L a : Addr) (cd : Value) (m : Str → Option Value)
    (kX : (hd.heap_1 w.params).In h₀) (kT : Top H.qv (looseW H.qv LS) mean mg mb h₀) (kB : Below callerA h₀ [] h₀)
    (dk ow so : Addr) (no ns : Nat) (svs : List Value) (sg : List Int) (hs : IntsAre svs sg) (c : LapS) (hP : LapOk w A sg 0 c)
    (n1 : NotIn A ow) (n2 : NotIn A so) (how : @LT.lt Nat _ A.ls ow) (hos : @LT.lt Nat _ ow so) (hdk : @LT.lt Nat _ dk A.dx) (hL : @LT.lt Nat _ (L + 1) A.dx) (hLd : @Ne Nat (L + 1) dk)
    (F : Fr h₀ L s.heap (kstB m (lapNames A dk ow so)))
    (N : News h₀ L s.heap (lapLed w.params A L dk ow so no svs ns c))
    (hE : PassesOwn (model PG w) (callerA.deeper (lawEnv L a cd)) (lawEnv L a cd) E)
    (hQ : ∀ h tk m', Fr h₀ L h m' → Q .next { s with heap := h, toks := tk }) :
    wpAny (model PG w) (callerA.deeper (lawEnv L a cd)) (exec (lawSt 6) (lawEnv L a cd)) Q E s := by
  have hfill : hd.heap_1 = hd.heap_1 ∧ PySem.Challenge.rw_pq0288_01 = PySem.Challenge.rw_pq0288_01 := by k_fill; exact ⟨rfl, rfl⟩
  clear hfill
  have hM : ∀ p ∈ lapNames A dk ow so, kstB m (lapNames A dk ow so) p.1 = some p.2 := List.forall_mem_cons.mpr ⟨rfl, List.forall_mem_cons.mpr ⟨rfl, List.forall_mem_cons.mpr ⟨rfl, List.forall_mem_cons.mpr ⟨rfl, List.forall_mem_nil _⟩⟩⟩⟩
  k_with "~L44:pyIter ref" => (k_dflt (rename IsRange _ _ _ _ _ _ _ _ => rg; rename Fr _ _ _ _ => fE; rename News _ _ _ _ => nE; k_dflt refine' range_K (σ := LapS) (lapLed w.params A L dk ow so no svs ns) (fun _ => lapNames A dk ow so) (LapOk w A sg) c (fun _ _ => rfl) rfl rg ?g1 (n := 9) ?g2 fE nE (Sub.refl _) hM hP ?turn ?done; (case g1 => exact rfl); (case g2 => exact rfl); (case done => exact fun c u h tk hP F9 N9 => hQ h tk _ F9); (case turn => exact fun c i t1 u h tk own hi ho hP F9 N9 => law_lap w A hA L a cd u kX kT kB dk ow so no ns svs sg hs i t1 hi c hP own ho n1 n2 how hos hdk hL hLd F9 N9 hE)))
  unfold lawEnv
  conv in lawSt 6 => whnf
  conv in (occs := *) lawScope => all_goals whnf
  k_steps

theorem law_ret (w : World) {h₀ : Heap} {mean : ExcName → Option Value} {mg mb : Str → Option Value} {s : Shared} {E : Value → Shared → Prop} {Q : Flow → Shared → Prop} (L a : Addr) (cd : Value) (m : Str → Option Value)
    (kX : (hd.heap_1 w.params).In h₀) (kT : Top H.qv (looseW H.qv LS) mean mg mb h₀) (kB : Below callerA h₀ [] h₀)
    (F : Fr h₀ L s.heap m) (hQ : ∀ tk, Q (.ret (.bool true)) { s with toks := tk }) :
    wpAny (model PG w) (callerA.deeper (lawEnv L a cd)) (exec (lawSt 7) (lawEnv L a cd)) Q E s := by
  unfold lawEnv
  conv in lawSt 7 => whnf
  conv in (occs := *) lawScope => all_goals whnf
  k_steps
  all_goals exact hQ _

end Mine

end Lay44

section Lay45
open PySem PySem.Spec PySem.Calls PySem.W PyProof.Rows

theorem Mine.lay45 : True := by
  w_top off
  k_with "~L45:ktr_room" => k_extra "~w0"
  k_with "~L45:is_list" => k_extra "~w5"
  k_with "~L45:k_enter" => k_extra "~w52"
  k_with "~L45:top_caught0" => k_extra "~w53"
  k_with "~L45:k_ne" => k_extra "~w54"
  k_with "~L45:l_idx" => k_extra "~w55"
  k_with "~L45:ktr_room" => k_extra "~w2"
  k_with "~L45:ktr_units" => k_extra "~w2"
  k_with "~L45:ktr_room" => k_extra "~w3"
  k_with "~L45:ktr_units" => k_extra "~w4"
  k_with "~L45:k_mem" => k_extra "~w57"
  k_with "~L45:k_inst" => k_extra "~w59"
  k_with "~L45:tlg_ne" => k_extra "~w62"
  k_with "~L45:k_all" => k_extra "~w63"
  k_with "~L45:lcg_off" => k_extra "~w64"
  k_with "~L45:k_lt" => k_extra "~w65"
  k_with "~L45:k_upd" => k_extra "~w66"
  k_with "~L45:k_updF" => k_extra "~w67"
  k_with "~L45:setAttr ref" => k_extra "~w68"
  k_with "~L45:setAttr ref" => k_extra "~w69"
  k_with "~L45:setAttr ref" => k_extra "~w70"
  k_with "~L45:tlg_ne" => k_extra "~w118"
  k_with "~L45:k_lt" => k_extra "~w119"
  k_with "~L45:tlg_ne" => k_extra "~w71"
  k_with "~L45:subscriptTail Name Slice ref ref" => k_extra "~w141"
  k_with "~L45:subscriptTail Name Name ref int" => k_extra "~w127"
  trivial

namespace Mine

theorem tail_is : [lawSt 4, lawSt 5, lawSt 6, lawSt 7] = List.drop 4 lawBody := by kernel_rfl
theorem tail5_is : List.drop 5 lawBody = [lawSt 5, lawSt 6, lawSt 7] := by kernel_rfl
def withM (A : BufA) (d0 m0 d1 m1 d2 m2 d3 m3 : Addr) : BufA := ⟨A.bx, A.dx, A.ls, A.G, ⟨A.M.kk, A.M.kd, A.M.rows, d0, m0, d1, m1, d2, m2, d3, m3⟩⟩
theorem ni_mid {A : BufA} {x : Addr} (hA : A.ok) (h1 : @LT.lt Nat _ A.ls x) (h2 : @LT.lt Nat _ x A.M.d0) : NotIn A x := by
  intro y hy e
  subst e
  obtain ⟨i, hi, ei⟩ := List.mem_iff_getElem.mp hy
  have hp' := List.pairwise_iff_getElem.mp hA
  have hi' : i < 17 := hi
  rcases Nat.lt_or_ge i 9 with q | q
  · have h3 : @LE.le Nat _ x A.ls := by
      rcases Nat.lt_or_ge i 8 with q' | q'
      · exact ei ▸ Nat.le_of_lt (hp' i 8 hi (show 8 < 17 by decide) q')
      · have : i = 8 := by omega
        subst this
        exact Nat.le_of_eq ei.symm
    exact Nat.lt_irrefl _ (Nat.lt_of_le_of_lt h3 h1)
  · have h3 : @LE.le Nat _ A.M.d0 x := by
      rcases Nat.lt_or_ge 9 i with q' | q'
      · exact ei ▸ Nat.le_of_lt (hp' 9 i (show 9 < 17 by decide) hi q')
      · have : i = 9 := by omega
        subst this
        exact Nat.le_of_eq ei
    exact Nat.lt_irrefl _ (Nat.lt_of_le_of_lt h3 h2)
theorem four {α : Type} {l : List α} (h : l.length = 4) : ∃ a b c d, l = [a, b, c, d] := by
  match l, h with
  | [a, b, c, d], _ => exact ⟨a, b, c, d, rfl⟩

theorem law_all (w : World) {h₀ : Heap} {mean : ExcName → Option Value} {mg mb : Str → Option Value} {s : Shared} {E : Value → Shared → Prop} {Q : Flow → Shared → Prop} (L a : Addr) (cd : Value) (m : Str → Option Value)
    (kX : (hd.heap_1 w.params).In h₀) (kT : Top H.qv (looseW H.qv LS) mean mg mb h₀) (kB : Below callerA h₀ [] h₀)
    (sl : Addr) (vs : List Value) (is : List Int) (oc : Obj) (cv : Option Value) (hoc : oc.data = .cell cv) (hs : IntsAre vs is) (hl : h₀.IsList sl vs.toArray) (hn : ¬ (63 : Int) < is.length)
    (F : Fr h₀ L s.heap (kstB m [(Str.ofString "script", .ref sl)])) (N : News h₀ L s.heap [(L + 1, oc)])
    (hE : PassesOwn (model PG w) (callerA.deeper (lawEnv L a cd)) (lawEnv L a cd) E)
    (hQ : ∀ h tk m', Fr h₀ L h m' → Q (.ret (.bool true)) { s with heap := h, toks := tk }) :
    wpAny (model PG w) (callerA.deeper (lawEnv L a cd)) (execs lawBody (lawEnv L a cd)) Q E s := by
  rw [law_is]
  refine wpAny_execs_app (law_init w L a cd m kX kT kB sl vs is oc hs hl hn F N ?_)
  intro A dk ow so vs0 ds0 nd no ns B S t kt o h1 tk1 m1 hm hA hdk how hos hLd hL hv hD GT ht hb hz hp ho F1 N1
  dsimp only
  rw [tail_is]
  have e0 : @LT.lt Nat _ A.dx A.ls := low_dx hA
  have oo : ∀ p ∈ [(L + 1, oc)], p.1 < A.dx := fun p hp => (List.mem_singleton.mp hp) ▸ hL
  have nL : ∀ D : Addr, @LT.lt Nat _ (L + 1) D → ∀ p ∈ [(L + 1, oc)], p.1 ≠ D := fun D hD p hp => (List.mem_singleton.mp hp) ▸ Nat.ne_of_lt hD
  refine law_marks w A hA L a cd m1 kX kT kB dk ow so [(L + 1, oc)] vs0 ds0 nd no ns hv hD B S t 44 GT kt o ho (by omega) F1 hm N1 hdk how hos (fun _ => off_consR (ldk_buf hA hL) (off_nil _)) (fun _ => off_consR (ldk_gap hA hL) (off_nil _)) (fun _ _ => off_consR (ldk_rows hA hL) (off_nil _)) (fun _ => off_cons (fun q hq => (List.mem_singleton.mp hq) ▸ hLd) (off_none _)) (nL _ (Nat.lt_trans hL (Nat.lt_trans e0 how))) (nL _ (Nat.lt_trans hL (Nat.lt_trans e0 (Nat.lt_trans how hos)))) oo hE ?_
  intro I c u h2 tk2 hP F2 N2
  rw [tail5_is]
  obtain ⟨vs2, ds2, nd2, ms, ws, no2, sv, ns2, o2⟩ := c
  obtain ⟨hI, hv2, hD2, li, ew, hsv, ho2, ok, pos⟩ := hP
  dsimp only at hv2 hD2 li ew hsv ho2 ok pos
  obtain ⟨⟨a0, d0, r0⟩, ⟨a1, d1, r1⟩, ⟨a2, d2, r2⟩, ⟨a3, d3, r3⟩, rfl⟩ := four li
  subst ew
  obtain ⟨k0, k1, k2, k3, k4, k5, k6, k7, _⟩ := ok
  dsimp only at k0 k1 k2 k3 k4 k5 k6 k7
  have i1 : @LT.lt Nat _ A.ls d0 := Nat.lt_trans how (Nat.lt_trans hos (Nat.lt_trans hI k0))
  have hA' : (withM A d0 a0 d1 a1 d2 a2 d3 a3).ok := ok_of (A := withM A d0 a0 d1 a1 d2 a2 d3 a3) hA i1 k1 k2 k3 k4 k5 k6 k7
  have N3 : News h₀ L h2 ([(dk, listOf vs2.toArray nd2)] ++ ([(ow, ownL (withM A d0 a0 d1 a1 d2 a2 d3 a3) no2)] ++ ([(so, listOf sv.toArray ns2)] ++ (bufL w.params (withM A d0 a0 d1 a1 d2 a2 d3 a3) B ++ gapL w.params (withM A d0 a0 d1 a1 d2 a2 d3 a3).G S ++ rowsL w.params (withM A d0 a0 d1 a1 d2 a2 d3 a3).M kt o2 ++ (mksL w.params (withM A d0 a0 d1 a1 d2 a2 d3 a3).M ⟨kt, o2, r0, r1, r2, r3⟩ ++ [(L + 1, oc)]))))) := N2
  have n1 : NotIn (withM A d0 a0 d1 a1 d2 a2 d3 a3) ow := ni_mid hA' how (Nat.lt_trans hos (Nat.lt_trans hI k0))
  have n2 : NotIn (withM A d0 a0 d1 a1 d2 a2 d3 a3) so := ni_mid hA' (Nat.lt_trans how hos) (Nat.lt_trans hI k0)
  have hdk' : @LT.lt Nat _ dk (withM A d0 a0 d1 a1 d2 a2 d3 a3).dx := hdk
  have hL' : @LT.lt Nat _ (L + 1) (withM A d0 a0 d1 a1 d2 a2 d3 a3).dx := hL
  have how' : @LT.lt Nat _ (withM A d0 a0 d1 a1 d2 a2 d3 a3).ls ow := how
  have hr : RowsIs w (withM A d0 a0 d1 a1 d2 a2 d3 a3).M o2 := ho2
  have hps : ∀ p ∈ places ⟨kt, o2, r0, r1, r2, r3⟩, 1 ≤ p ∧ p ≤ (t.length : Int) + 1 := by
    intro p hp
    simp only [places, List.mem_cons, List.not_mem_nil, or_false] at hp
    rcases hp with rfl | rfl | rfl | rfl
    · exact pos (a0, d0, r0) (.head _)
    · exact pos (a1, d1, r1) (.tail _ (.head _))
    · exact pos (a2, d2, r2) (.tail _ (.tail _ (.head _)))
    · exact pos (a3, d3, r3) (.tail _ (.tail _ (.tail _ (.head _))))
  have hsg : IntsAre sv ((pairs ⟨kt, o2, r0, r1, r2, r3⟩).map sgn) := hsv
  have F3 : Fr h₀ L h2 (kstB u (lapNames (withM A d0 a0 d1 a1 d2 a2 d3 a3) dk ow so)) := F2
  revert N3 n1 n2 hdk' hL' how' hr hA' F3
  generalize withM A d0 a0 d1 a1 d2 a2 d3 a3 = A'
  intro hA' N3 n1 n2 hdk' hL' how' hr F3
  refine wpAny_execs_cons (law_goto w A' hA' L a cd _ kX kT kB dk ([(ow, ownL A' no2)] ++ ([(so, listOf sv.toArray ns2)] ++ (mkL w.params A'.M ⟨kt, o2, r0, r1, r2, r3⟩ ++ [(L + 1, oc)]))) vs2 ds2 nd2 hv2 hD2 B S t 44 GT (by omega) (by omega) (by omega) (by omega) (by omega) (fr_ps F3 _ (List.forall_mem_cons.mpr ⟨rfl, List.forall_mem_cons.mpr ⟨rfl, List.forall_mem_nil _⟩⟩)) (News.sub N3 (by dsimp only [mkL]; nest_cls)) hdk' (fun _ => by lcg_off) (fun _ => by lcg_off) (fun _ => by lcg_off) ?_)
  intro vs4 ds4 nd4 B4 h4 tk4 hv4 hD4 z0 z1 z2 z3 F4 N4
  refine wpAny_execs_cons (law_laps w A' hA' L a cd _ kX kT kB dk ow so no2 ns2 sv _ hsg ⟨vs4, ds4, nd4, B4, S, t, ⟨kt, o2, r0, r1, r2, r3⟩, oc⟩ ⟨hv4, hD4, GT, by dsimp only; omega, z0, z1, z2, z3, hr, hps, rfl, ⟨cv, hoc⟩⟩ n1 n2 how' hos hdk' hL' hLd (fr_ps F4 _ (List.forall_mem_cons.mpr ⟨rfl, List.forall_mem_cons.mpr ⟨rfl, List.forall_mem_cons.mpr ⟨rfl, List.forall_mem_cons.mpr ⟨rfl, List.forall_mem_nil _⟩⟩⟩⟩)) (News.sub N4 (by dsimp only [lapLed]; nest_cls)) hE ?_)
  intro h5 tk5 m5 F5
  exact wpAny_execs_cons (law_ret w L a cd m5 kX kT kB F5 fun tk6 => hQ h5 tk6 m5 F5)

end Mine

namespace Mine

-- the laws of the globals' names are not needed: no twin of the whole program
local macro_rules | `(tactic| w_nolog $t:tactic) => do if (t.raw.find? fun s => s.getId.eraseMacroScopes == `GL).isSome then `(tactic| skip) else Lean.Macro.throwUnsupported
theorem lw_law : PySem.Challenge.rw_pq0288_01.Holds := by
  refine hd ?_
  k_go0
  all_goals try k_fold
  rename Shared => s1
  have hQ : ∀ h' tk m', Fr s1.heap s1.heap.objs.size h' m' → qk (Flow.ret (Value.bool true)) ⟨h', s1.gens, s1.drawn, tk, s1.os⟩ := by
    intro h' tk m' F9
    k_unfold
    dsimp only
    k_steps
  rename (hd.heap_1 _).In _ => kX0
  rename Top _ _ _ _ _ _ => kT0
  rename Below _ _ _ _ => kB0
  rename Fr _ _ _ _ => kF0
  rename News _ _ _ _ => kN0
  rename Heap.IsList _ _ _ => kL0
  rename IntsAre _ _ => kI0
  rename _ = Data.cell _ => kD0
  rename ¬ (_ : Int) < _ => kH0
  refine law_all _ s1.heap.objs.size _ _ _ kX0 kT0 kB0 _ _ _ _ _ kD0 kI0 kL0 kH0 (fr_ps kF0 _ (List.forall_mem_cons.mpr ⟨rfl, List.forall_mem_nil _⟩)) kN0 (by passes_own) (fun h tk m' F9 => hQ h tk m' F9)

end Mine

end Lay45

end
theorem PySem.Challenge.cw_pq0288_01_holds : PySem.Challenge.rw_pq0288_01.Holds :=
  Mine.lw_law
